/- Ledgers: the law of Parse; Merge. -/
import Derived.Test.YtjpjchohpjbknaaLC
import Derived.Test.YtjpjchohpjbknaaLD
import Derived.Test.YtjpjchohpjbknaaEngE

set_option linter.unusedVariables false
set_option linter.unusedSimpArgs false

/- Ledgers: the law's digits. -/
namespace Go.Proofs.Ytjpjchohpjbknaa
open Go.Eng
set_option maxHeartbeats 4000000
set_option maxRecDepth 50000
attribute [local irreducible] WC RegS RegD SeqQ BlkQ ScoQ RegK CutK Sat SatN FnIs LoopQ StepIs OpIs
theorem digits_is (s : List UInt8) (hL : s.length ≤ 1000000) : FnIs Try.prog 43 [.d (strD s)] [] (.bool (okHex s)) [] := by
  refine fnIs_of tab_ok Try.func43 rfl rfl rfl ?_
  refine wc_seq ?_
  refine wc_region ?_
  refine reg_quiet rfl (step_C tab_ok (fun K hk => hk)) ?_
  refine reg_nil ?_
  refine seq_n ?_
  refine wc_seq ?_
  refine wc_seq ?_
  refine wc_region ?_
  refine reg_quiet rfl (step_C tab_ok (fun K hk => hk)) ?_
  refine reg_nil ?_
  refine seq_n ?_
  refine wc_block ?_
  refine wc_inv (fun i : Nat => ⟨[(3, .int .i64 i), (0, .d (strD s))], [], 72, Try.f43.ntmps, 64⟩) (fun i => i ≤ s.length ∧ ∀ j c, j < i → s[j]? = some c → 0 ≤ Lib.indexByte hexD c) (fun i => s.length - i) 0 [] ⟨Nat.zero_le _, fun _ _ h => absurd h (Nat.not_lt_zero _)⟩
    (.of rfl rfl rfl rfl rfl ⟨⟨_, rfl, .refl _⟩, rfl, ⟨_, rfl, .refl _⟩, rfl, trivial⟩ trivial) ?_
  rintro i ⟨hi, hall⟩
  refine wc_of ?_
  refine wc_seq ?_
  refine wc_seq ?_
  refine wc_region ?_
  refine reg_quiet rfl (step_C tab_ok (fun K hk => hk)) ?_
  refine reg_quiet rfl (step_C tab_ok (fun K hk => hk)) ?_
  refine reg_quiet rfl (len_s tab_ok rfl rfl) ?_
  refine reg_quiet rfl (step_C tab_ok (fun K hk => hk)) ?_
  refine reg_nil ?_
  refine seq_n ?_
  refine wc_cond rfl (fun h3 => ?_) (fun h3 => ?_)
  · have hlt : i < s.length := by have := of_decide_eq_true h3; omega
    obtain ⟨c, hc⟩ : ∃ c, s[i]? = some c := ⟨_, List.getElem?_eq_getElem hlt⟩
    have hr := dig_at c
    have bad : decide (0 ≤ Lib.indexByte hexD c) = false → okHex s = false := fun h => by
      rw [okHex, List.all_eq_false]
      exact ⟨c, List.mem_of_getElem? hc, by rw [h]; simp⟩
    have good : decide (0 ≤ Lib.indexByte hexD c) = true → ∀ j d, j < i + 1 → s[j]? = some d → 0 ≤ Lib.indexByte hexD d := fun h j d hj hd => by
      by_cases e : j = i
      · subst e; rw [hc] at hd; cases hd; exact of_decide_eq_true h
      · exact hall j d (by omega) hd
    cases b1 : decide ((c.toNat : Int) < 48) with
    | true =>
      have b3 : decide ((c.toNat : Int) < 97) = true := decide_eq_true (by have := of_decide_eq_true b1; omega)
      rw [b1, b3] at hr
      have hk := bad hr
      refine wc_skip ?_
      refine seq_n ?_
      refine wc_seq ?_
      refine wc_block ?_
      refine wc_seq ?_
      refine wc_region ?_
      refine reg_quiet rfl (step_C tab_ok (fun K hk => hk)) ?_
      refine reg_quiet rfl (step_C tab_ok (fun K hk => hk)) ?_
      refine reg_quiet rfl (index_s (l := s) (m := i) tab_ok rfl rfl rfl hc) ?_
      refine reg_quiet rfl (step_C tab_ok (fun K hk => hk)) ?_
      refine reg_quiet rfl (step_C tab_ok (fun K hk => hk)) ?_
      refine reg_skip rfl rfl (by assumption) rfl rfl ?_
      refine reg_skip rfl rfl (by assumption) rfl rfl ?_
      refine reg_skip rfl rfl (by assumption) rfl rfl ?_
      refine reg_skip rfl rfl (by assumption) rfl rfl ?_
      refine reg_quiet rfl (pick_T tab_ok rfl (by assumption) rfl) ?_
      refine reg_quiet rfl (step_C tab_ok (fun K hk => hk)) ?_
      refine reg_on rfl rfl rfl ?_
      refine reg_quiet rfl (step_C tab_ok (fun K hk => hk)) ?_
      refine reg_on rfl rfl rfl ?_
      refine reg_quiet rfl (step_C tab_ok (fun K hk => hk)) ?_
      refine reg_on rfl rfl rfl ?_
      refine reg_quiet rfl (index_s (l := s) (m := i) tab_ok rfl rfl rfl hc) ?_
      refine reg_on rfl rfl rfl ?_
      refine reg_quiet rfl (step_C tab_ok (fun K hk => hk)) ?_
      refine reg_on rfl rfl rfl ?_
      refine reg_quiet rfl (step_C tab_ok (fun K hk => hk)) ?_
      refine reg_skip rfl rfl (by assumption) rfl rfl ?_
      refine reg_skip rfl rfl (by assumption) rfl rfl ?_
      refine reg_skip rfl rfl (by assumption) rfl rfl ?_
      refine reg_skip rfl rfl (by assumption) rfl rfl ?_
      refine reg_on rfl rfl rfl ?_
      refine reg_quiet rfl (pick_T tab_ok rfl (by assumption) rfl) ?_
      refine reg_quiet rfl (pick_T tab_ok rfl rfl rfl) ?_
      refine reg_nil ?_
      refine seq_n ?_
      refine wc_true rfl rfl ?_
      refine wc_seq ?_
      refine wc_region ?_
      refine reg_quiet rfl (step_C tab_ok (fun K hk => hk)) ?_
      refine reg_nil ?_
      refine seq_n ?_
      refine wc_ret ?_
      refine blk_r ?_
      refine seq_r ?_
      refine loop_r ?_
      refine blk_r ?_
      refine seq_r ?_
      exact ⟨trivial, [], .of rfl rfl rfl rfl rfl ⟨⟨_, rfl, AVLe.of_eq (by rw [hk]; rfl)⟩, rfl, trivial⟩ trivial⟩
    | false =>
      cases b2 : decide ((57 : Int) < (c.toNat : Int)) with
      | false =>
        rw [b1, b2] at hr
        have hk := good hr
        refine wc_skip ?_
        refine seq_n ?_
        refine wc_seq ?_
        refine wc_block ?_
        refine wc_seq ?_
        refine wc_region ?_
        refine reg_quiet rfl (step_C tab_ok (fun K hk => hk)) ?_
        refine reg_quiet rfl (step_C tab_ok (fun K hk => hk)) ?_
        refine reg_quiet rfl (index_s (l := s) (m := i) tab_ok rfl rfl rfl hc) ?_
        refine reg_quiet rfl (step_C tab_ok (fun K hk => hk)) ?_
        refine reg_quiet rfl (step_C tab_ok (fun K hk => hk)) ?_
        refine reg_on rfl rfl (by assumption) ?_
        refine reg_quiet rfl (step_C tab_ok (fun K hk => hk)) ?_
        refine reg_on rfl rfl (by assumption) ?_
        refine reg_quiet rfl (step_C tab_ok (fun K hk => hk)) ?_
        refine reg_on rfl rfl (by assumption) ?_
        refine reg_quiet rfl (index_s (l := s) (m := i) tab_ok rfl rfl rfl hc) ?_
        refine reg_on rfl rfl (by assumption) ?_
        refine reg_quiet rfl (step_C tab_ok (fun K hk => hk)) ?_
        refine reg_quiet rfl (pick_F tab_ok rfl (by assumption) rfl) ?_
        refine reg_quiet rfl (step_C tab_ok (fun K hk => hk)) ?_
        refine reg_skip rfl rfl (by assumption) rfl rfl ?_
        refine reg_skip rfl rfl (by assumption) rfl rfl ?_
        refine reg_skip rfl rfl (by assumption) rfl rfl ?_
        refine reg_skip rfl rfl (by assumption) rfl rfl ?_
        refine reg_skip rfl rfl (by assumption) rfl rfl ?_
        refine reg_skipU rfl rfl rfl rfl ?_
        refine reg_skipU rfl rfl rfl rfl ?_
        refine reg_skipU rfl rfl rfl rfl ?_
        refine reg_skipU rfl rfl rfl rfl ?_
        refine reg_skip rfl rfl (by assumption) rfl rfl ?_
        refine reg_quiet rfl (pick_F tab_ok rfl (by assumption) rfl) ?_
        refine reg_nil ?_
        refine seq_n ?_
        refine wc_false rfl rfl ?_
        refine wc_skip ?_
        refine blk_n ?_
        refine seq_n ?_
        refine wc_region ?_
        refine reg_quiet rfl (step_C tab_ok (fun K hk => hk)) ?_
        refine reg_quiet rfl (add_int tab_ok rfl rfl (wrap_i64 (by omega) (by omega))) ?_
        refine reg_quiet rfl (step_C tab_ok (fun K hk => hk)) ?_
        refine reg_nil ?_
        exact loop_n (i + 1) [] ⟨hlt, hk⟩ (by omega) (.of rfl rfl rfl rfl rfl ⟨⟨_, rfl, .refl _⟩, rfl, ⟨_, rfl, .refl _⟩, rfl, trivial⟩ trivial)
      | true =>
        cases b3 : decide ((c.toNat : Int) < 97) with
        | true =>
          rw [b1, b2, b3] at hr
          have hk := bad hr
          refine wc_skip ?_
          refine seq_n ?_
          refine wc_seq ?_
          refine wc_block ?_
          refine wc_seq ?_
          refine wc_region ?_
          refine reg_quiet rfl (step_C tab_ok (fun K hk => hk)) ?_
          refine reg_quiet rfl (step_C tab_ok (fun K hk => hk)) ?_
          refine reg_quiet rfl (index_s (l := s) (m := i) tab_ok rfl rfl rfl hc) ?_
          refine reg_quiet rfl (step_C tab_ok (fun K hk => hk)) ?_
          refine reg_quiet rfl (step_C tab_ok (fun K hk => hk)) ?_
          refine reg_on rfl rfl (by assumption) ?_
          refine reg_quiet rfl (step_C tab_ok (fun K hk => hk)) ?_
          refine reg_on rfl rfl (by assumption) ?_
          refine reg_quiet rfl (step_C tab_ok (fun K hk => hk)) ?_
          refine reg_on rfl rfl (by assumption) ?_
          refine reg_quiet rfl (index_s (l := s) (m := i) tab_ok rfl rfl rfl hc) ?_
          refine reg_on rfl rfl (by assumption) ?_
          refine reg_quiet rfl (step_C tab_ok (fun K hk => hk)) ?_
          refine reg_quiet rfl (pick_F tab_ok rfl (by assumption) rfl) ?_
          refine reg_quiet rfl (step_C tab_ok (fun K hk => hk)) ?_
          refine reg_on rfl rfl (by assumption) ?_
          refine reg_quiet rfl (step_C tab_ok (fun K hk => hk)) ?_
          refine reg_on rfl rfl (by assumption) ?_
          refine reg_quiet rfl (step_C tab_ok (fun K hk => hk)) ?_
          refine reg_on rfl rfl (by assumption) ?_
          refine reg_quiet rfl (index_s (l := s) (m := i) tab_ok rfl rfl rfl hc) ?_
          refine reg_on rfl rfl (by assumption) ?_
          refine reg_quiet rfl (step_C tab_ok (fun K hk => hk)) ?_
          refine reg_on rfl rfl (by assumption) ?_
          refine reg_quiet rfl (step_C tab_ok (fun K hk => hk)) ?_
          refine reg_skip rfl rfl (by assumption) rfl rfl ?_
          refine reg_skip rfl rfl (by assumption) rfl rfl ?_
          refine reg_skip rfl rfl (by assumption) rfl rfl ?_
          refine reg_skip rfl rfl (by assumption) rfl rfl ?_
          refine reg_on rfl rfl (by assumption) ?_
          refine reg_quiet rfl (pick_T tab_ok rfl (by assumption) rfl) ?_
          refine reg_quiet rfl (pick_T tab_ok rfl (by assumption) rfl) ?_
          refine reg_nil ?_
          refine seq_n ?_
          refine wc_true rfl rfl ?_
          refine wc_seq ?_
          refine wc_region ?_
          refine reg_quiet rfl (step_C tab_ok (fun K hk => hk)) ?_
          refine reg_nil ?_
          refine seq_n ?_
          refine wc_ret ?_
          refine blk_r ?_
          refine seq_r ?_
          refine loop_r ?_
          refine blk_r ?_
          refine seq_r ?_
          exact ⟨trivial, [], .of rfl rfl rfl rfl rfl ⟨⟨_, rfl, AVLe.of_eq (by rw [hk]; rfl)⟩, rfl, trivial⟩ trivial⟩
        | false =>
          cases b4 : decide ((102 : Int) < (c.toNat : Int)) with
          | true =>
            rw [b1, b2, b3, b4] at hr
            have hk := bad hr
            refine wc_skip ?_
            refine seq_n ?_
            refine wc_seq ?_
            refine wc_block ?_
            refine wc_seq ?_
            refine wc_region ?_
            refine reg_quiet rfl (step_C tab_ok (fun K hk => hk)) ?_
            refine reg_quiet rfl (step_C tab_ok (fun K hk => hk)) ?_
            refine reg_quiet rfl (index_s (l := s) (m := i) tab_ok rfl rfl rfl hc) ?_
            refine reg_quiet rfl (step_C tab_ok (fun K hk => hk)) ?_
            refine reg_quiet rfl (step_C tab_ok (fun K hk => hk)) ?_
            refine reg_on rfl rfl (by assumption) ?_
            refine reg_quiet rfl (step_C tab_ok (fun K hk => hk)) ?_
            refine reg_on rfl rfl (by assumption) ?_
            refine reg_quiet rfl (step_C tab_ok (fun K hk => hk)) ?_
            refine reg_on rfl rfl (by assumption) ?_
            refine reg_quiet rfl (index_s (l := s) (m := i) tab_ok rfl rfl rfl hc) ?_
            refine reg_on rfl rfl (by assumption) ?_
            refine reg_quiet rfl (step_C tab_ok (fun K hk => hk)) ?_
            refine reg_quiet rfl (pick_F tab_ok rfl (by assumption) rfl) ?_
            refine reg_quiet rfl (step_C tab_ok (fun K hk => hk)) ?_
            refine reg_on rfl rfl (by assumption) ?_
            refine reg_quiet rfl (step_C tab_ok (fun K hk => hk)) ?_
            refine reg_on rfl rfl (by assumption) ?_
            refine reg_quiet rfl (step_C tab_ok (fun K hk => hk)) ?_
            refine reg_on rfl rfl (by assumption) ?_
            refine reg_quiet rfl (index_s (l := s) (m := i) tab_ok rfl rfl rfl hc) ?_
            refine reg_on rfl rfl (by assumption) ?_
            refine reg_quiet rfl (step_C tab_ok (fun K hk => hk)) ?_
            refine reg_on rfl rfl (by assumption) ?_
            refine reg_quiet rfl (step_C tab_ok (fun K hk => hk)) ?_
            refine reg_on rfl rfl (by assumption) ?_
            refine reg_quiet rfl (step_C tab_ok (fun K hk => hk)) ?_
            refine reg_on rfl rfl (by assumption) ?_
            refine reg_quiet rfl (step_C tab_ok (fun K hk => hk)) ?_
            refine reg_on rfl rfl (by assumption) ?_
            refine reg_quiet rfl (index_s (l := s) (m := i) tab_ok rfl rfl rfl hc) ?_
            refine reg_on rfl rfl (by assumption) ?_
            refine reg_quiet rfl (step_C tab_ok (fun K hk => hk)) ?_
            refine reg_on rfl rfl (by assumption) ?_
            refine reg_quiet rfl (pick_F tab_ok rfl (by assumption) rfl) ?_
            refine reg_quiet rfl (pick_T tab_ok rfl (by assumption) rfl) ?_
            refine reg_nil ?_
            refine seq_n ?_
            refine wc_true rfl (by assumption) ?_
            refine wc_seq ?_
            refine wc_region ?_
            refine reg_quiet rfl (step_C tab_ok (fun K hk => hk)) ?_
            refine reg_nil ?_
            refine seq_n ?_
            refine wc_ret ?_
            refine blk_r ?_
            refine seq_r ?_
            refine loop_r ?_
            refine blk_r ?_
            refine seq_r ?_
            exact ⟨trivial, [], .of rfl rfl rfl rfl rfl ⟨⟨_, rfl, AVLe.of_eq (by rw [hk]; rfl)⟩, rfl, trivial⟩ trivial⟩
          | false =>
            rw [b1, b2, b3, b4] at hr
            have hk := good hr
            refine wc_skip ?_
            refine seq_n ?_
            refine wc_seq ?_
            refine wc_block ?_
            refine wc_seq ?_
            refine wc_region ?_
            refine reg_quiet rfl (step_C tab_ok (fun K hk => hk)) ?_
            refine reg_quiet rfl (step_C tab_ok (fun K hk => hk)) ?_
            refine reg_quiet rfl (index_s (l := s) (m := i) tab_ok rfl rfl rfl hc) ?_
            refine reg_quiet rfl (step_C tab_ok (fun K hk => hk)) ?_
            refine reg_quiet rfl (step_C tab_ok (fun K hk => hk)) ?_
            refine reg_on rfl rfl (by assumption) ?_
            refine reg_quiet rfl (step_C tab_ok (fun K hk => hk)) ?_
            refine reg_on rfl rfl (by assumption) ?_
            refine reg_quiet rfl (step_C tab_ok (fun K hk => hk)) ?_
            refine reg_on rfl rfl (by assumption) ?_
            refine reg_quiet rfl (index_s (l := s) (m := i) tab_ok rfl rfl rfl hc) ?_
            refine reg_on rfl rfl (by assumption) ?_
            refine reg_quiet rfl (step_C tab_ok (fun K hk => hk)) ?_
            refine reg_quiet rfl (pick_F tab_ok rfl (by assumption) rfl) ?_
            refine reg_quiet rfl (step_C tab_ok (fun K hk => hk)) ?_
            refine reg_on rfl rfl (by assumption) ?_
            refine reg_quiet rfl (step_C tab_ok (fun K hk => hk)) ?_
            refine reg_on rfl rfl (by assumption) ?_
            refine reg_quiet rfl (step_C tab_ok (fun K hk => hk)) ?_
            refine reg_on rfl rfl (by assumption) ?_
            refine reg_quiet rfl (index_s (l := s) (m := i) tab_ok rfl rfl rfl hc) ?_
            refine reg_on rfl rfl (by assumption) ?_
            refine reg_quiet rfl (step_C tab_ok (fun K hk => hk)) ?_
            refine reg_on rfl rfl (by assumption) ?_
            refine reg_quiet rfl (step_C tab_ok (fun K hk => hk)) ?_
            refine reg_on rfl rfl (by assumption) ?_
            refine reg_quiet rfl (step_C tab_ok (fun K hk => hk)) ?_
            refine reg_on rfl rfl (by assumption) ?_
            refine reg_quiet rfl (step_C tab_ok (fun K hk => hk)) ?_
            refine reg_on rfl rfl (by assumption) ?_
            refine reg_quiet rfl (index_s (l := s) (m := i) tab_ok rfl rfl rfl hc) ?_
            refine reg_on rfl rfl (by assumption) ?_
            refine reg_quiet rfl (step_C tab_ok (fun K hk => hk)) ?_
            refine reg_on rfl rfl (by assumption) ?_
            refine reg_quiet rfl (pick_F tab_ok rfl (by assumption) rfl) ?_
            refine reg_quiet rfl (pick_T tab_ok rfl (by assumption) rfl) ?_
            refine reg_nil ?_
            refine seq_n ?_
            refine wc_false rfl (by assumption) ?_
            refine wc_skip ?_
            refine blk_n ?_
            refine seq_n ?_
            refine wc_region ?_
            refine reg_quiet rfl (step_C tab_ok (fun K hk => hk)) ?_
            refine reg_quiet rfl (add_int tab_ok rfl rfl (wrap_i64 (by omega) (by omega))) ?_
            refine reg_quiet rfl (step_C tab_ok (fun K hk => hk)) ?_
            refine reg_nil ?_
            exact loop_n (i + 1) [] ⟨hlt, hk⟩ (by omega) (.of rfl rfl rfl rfl rfl ⟨⟨_, rfl, .refl _⟩, rfl, ⟨_, rfl, .refl _⟩, rfl, trivial⟩ trivial)
  · have he : s.length ≤ i := by have := of_decide_eq_false h3; omega
    have hk : okHex s = true := by
      rw [okHex, List.all_eq_true]
      intro c hc
      obtain ⟨j, hj, hjc⟩ := List.getElem_of_mem hc
      exact decide_eq_true (hall j c (by omega) (by rw [List.getElem?_eq_getElem hj, hjc]))
    refine wc_exit ?_
    refine seq_x ?_
    refine loop_x ?_
    refine blk_x ?_
    refine seq_n ?_
    refine wc_seq ?_
    refine wc_region ?_
    refine reg_quiet rfl (step_C tab_ok (fun K hk => hk)) ?_
    refine reg_nil ?_
    refine seq_n ?_
    refine wc_ret ?_
    exact ⟨trivial, [], .of rfl rfl rfl rfl rfl ⟨⟨_, rfl, AVLe.of_eq (by rw [hk]; rfl)⟩, rfl, trivial⟩ trivial⟩
end Go.Proofs.Ytjpjchohpjbknaa

/- Ledgers: the law of Parse. -/
namespace Go.Proofs.Ytjpjchohpjbknaa
open Go.Eng
set_option maxHeartbeats 4000000
set_option maxRecDepth 50000
attribute [local irreducible] WC RegS RegD SeqQ BlkQ ScoQ RegK CutK Sat SatN FnIs LoopQ StepIs OpIs
theorem chk_of {m : List LUse} (hv : ∀ u ∈ m, OkU u ∧ validU u = true) (hL : m.length ≤ 65536) : chkL m = 0 := by
  have h1 : m.all validU = true := List.all_eq_true.2 fun u hu => (hv u hu).2
  rw [chkL, if_neg (by omega), if_pos h1]
theorem text_all (m : List LUse) (hv : ∀ u ∈ m, OkU u ∧ validU u = true) (hL : m.length ≤ 14364) : FnIs Try.prog 39 [.d (encLed m)] [] (.tup (.acons (.d (strD (textL m))) (.acons (.d (i6 0)) .anil))) [] := by
  by_cases hm : m = []
  · subst hm; exact text_zero
  · exact text_is m hm (chk_of hv (by omega)) (fun u hu => (hv u hu).1) hL
theorem parseT_text {m : List LUse} (hv : ∀ u ∈ m, OkU u ∧ validU u = true) : parseT (textL m) = (m, 0, 0) := by
  have := parseF_text m [] [] hv
  rw [List.append_nil, List.nil_append, parseF_nil] at this
  exact this
theorem parseT_post {m : List LUse} {post : List UInt8} (hv : ∀ u ∈ m, OkU u ∧ validU u = true) : parseT (textL m ++ post) = parseF post m := by
  have := parseF_text m post [] hv
  rw [List.nil_append] at this
  exact this
theorem led_le (m : List LUse) : DLe (.cons (.arx 20 encUse m) .nil) (encLed m) := DLe.cons DLe.arx_arr (.refl _)
theorem lparse_long (s : List UInt8) (h : 400 < s.length) : FnIs Try.prog 9 [.d (strD s)] [] (.bool true) [] := by
  have hd : decide ((400 : Int) < (s.length : Int)) = true := decide_eq_true (by omega)
  refine fnIs_of tab_ok Try.func9 rfl rfl rfl ?_
  refine wc_seq ?_
  refine wc_region ?_
  refine reg_quiet rfl (step_C tab_ok (fun K hk => hk)) ?_
  refine reg_nil ?_
  refine seq_n ?_
  refine wc_seq ?_
  refine wc_seq ?_
  refine wc_region ?_
  refine reg_quiet rfl (step_C tab_ok (fun K hk => hk)) ?_
  refine reg_quiet rfl (len_s tab_ok rfl rfl) ?_
  refine reg_quiet rfl (step_C tab_ok (fun K hk => hk)) ?_
  refine reg_nil ?_
  refine seq_n ?_
  refine wc_true rfl (by assumption) ?_
  refine wc_seq ?_
  refine wc_region ?_
  refine reg_quiet rfl (call_r lives_is rfl rfl arg_nil (.inl rfl) (fun _ => rfl)) ?_
  refine reg_quiet rfl (step_C tab_ok (fun K hk => hk)) ?_
  refine reg_nil ?_
  refine seq_n ?_
  refine wc_ret ?_
  refine seq_r ?_
  exact ⟨trivial, [], .of rfl rfl rfl rfl rfl ⟨⟨_, rfl, AVLe.of_eq rfl⟩, rfl, trivial⟩ trivial⟩
theorem lparse_ok (m : List LUse) (hv : ∀ u ∈ m, OkU u ∧ validU u = true) (h : (textL m).length ≤ 400) : FnIs Try.prog 9 [.d (strD (textL m))] [] (.bool true) [] := by
  have hd : decide ((400 : Int) < ((textL m).length : Int)) = false := decide_eq_false (by omega)
  have hl := textL_len m fun u hu => (hv u hu).1
  have hT := text_all m hv (by omega)
  have hP := parse_text (textL m) (by omega)
  rw [parseT_text hv] at hP
  have hq : decide (textL m = textL m) = true := decide_eq_true rfl
  refine fnIs_of tab_ok Try.func9 rfl rfl rfl ?_
  refine wc_seq ?_
  refine wc_region ?_
  refine reg_quiet rfl (step_C tab_ok (fun K hk => hk)) ?_
  refine reg_nil ?_
  refine seq_n ?_
  refine wc_seq ?_
  refine wc_seq ?_
  refine wc_region ?_
  refine reg_quiet rfl (step_C tab_ok (fun K hk => hk)) ?_
  refine reg_quiet rfl (len_s tab_ok rfl rfl) ?_
  refine reg_quiet rfl (step_C tab_ok (fun K hk => hk)) ?_
  refine reg_nil ?_
  refine seq_n ?_
  refine wc_false rfl (by assumption) ?_
  refine wc_skip ?_
  refine seq_n ?_
  refine wc_seq ?_
  refine wc_region ?_
  refine reg_quiet rfl (step_C tab_ok (fun K hk => hk)) ?_
  refine reg_quiet rfl (call_r hP rfl rfl (arg_e arg_nil) (.inl rfl) (fun _ => rfl)) ?_
  refine reg_quiet rfl (step_C tab_ok (fun K hk => hk)) ?_
  refine reg_quiet rfl (step_C tab_ok (fun K hk => hk)) ?_
  refine reg_quiet rfl (step_C tab_ok (fun K hk => hk)) ?_
  refine reg_quiet rfl (step_C tab_ok (fun K hk => hk)) ?_
  refine reg_new (step_C tab_ok (fun K hk => hk)) rfl ?_
  refine reg_store (store_row tab_ok rfl rfl rfl ⟨_, ⟨rfl, rfl, rfl⟩, rfl⟩ rfl) ?_
  refine reg_quiet rfl (step_C tab_ok (fun K hk => hk)) ?_
  refine reg_quiet rfl (step_C tab_ok (fun K hk => hk)) ?_
  refine reg_nil ?_
  refine seq_n ?_
  refine wc_seq ?_
  refine wc_seq ?_
  refine wc_region ?_
  refine reg_quiet rfl (step_C tab_ok (fun K hk => hk)) ?_
  refine reg_quiet rfl (step_C tab_ok (fun K hk => hk)) ?_
  refine reg_nil ?_
  refine seq_n ?_
  refine wc_true rfl rfl ?_
  refine wc_seq ?_
  refine wc_region ?_
  refine reg_quiet rfl (load_box tab_ok rfl rfl rfl rfl) ?_
  refine reg_quiet rfl (call_r hT rfl rfl (arg_d rfl trivial (led_le m) arg_nil) (.inl rfl) (fun _ => rfl)) ?_
  refine reg_quiet rfl (step_C tab_ok (fun K hk => hk)) ?_
  refine reg_quiet rfl (step_C tab_ok (fun K hk => hk)) ?_
  refine reg_quiet rfl (step_C tab_ok (fun K hk => hk)) ?_
  refine reg_quiet rfl (step_C tab_ok (fun K hk => hk)) ?_
  refine reg_quiet rfl (step_C tab_ok (fun K hk => hk)) ?_
  refine reg_nil ?_
  refine seq_n ?_
  refine wc_seq ?_
  refine wc_region ?_
  refine reg_quiet rfl (step_C tab_ok (fun K hk => hk)) ?_
  refine reg_quiet rfl (step_C tab_ok (fun K hk => hk)) ?_
  refine reg_quiet rfl (step_C tab_ok (fun K hk => hk)) ?_
  refine reg_on rfl rfl rfl ?_
  refine reg_quiet rfl (step_C tab_ok (fun K hk => hk)) ?_
  refine reg_on rfl rfl rfl ?_
  refine reg_quiet rfl (step_C tab_ok (fun K hk => hk)) ?_
  refine reg_on rfl rfl rfl ?_
  refine reg_quiet rfl (eql_s tab_ok rfl rfl rfl) ?_
  refine reg_quiet rfl (pick_T tab_ok rfl rfl rfl) ?_
  refine reg_quiet rfl (step_C tab_ok (fun K hk => hk)) ?_
  refine reg_on rfl rfl (by assumption) ?_
  refine reg_quiet rfl (step_C tab_ok (fun K hk => hk)) ?_
  refine reg_on rfl rfl (by assumption) ?_
  refine reg_quiet rfl (step_C tab_ok (fun K hk => hk)) ?_
  refine reg_quiet rfl (pick_T tab_ok rfl (by assumption) rfl) ?_
  refine reg_quiet rfl (step_C tab_ok (fun K hk => hk)) ?_
  refine reg_on rfl rfl rfl ?_
  refine reg_quiet rfl (call_r lives_is rfl rfl arg_nil (.inl rfl) (fun _ => rfl)) ?_
  refine reg_quiet rfl (pick_T tab_ok rfl rfl rfl) ?_
  refine reg_quiet rfl (step_C tab_ok (fun K hk => hk)) ?_
  refine reg_nil ?_
  refine seq_n ?_
  refine wc_ret ?_
  refine seq_r ?_
  exact ⟨trivial, [], .of rfl rfl rfl rfl rfl ⟨⟨_, rfl, AVLe.of_eq rfl⟩, rfl, trivial⟩ trivial⟩
theorem lparse_bad (m : List LUse) (post : List UInt8) (e : Int) (hv : ∀ u ∈ m, OkU u ∧ validU u = true) (h : (textL m ++ post).length ≤ 400) (hp : 0 < post.length) (hF : parseF post m = ([], m.length + 1, e))
    (he : (e = 1 ∧ ∃ t r, post = t ++ 10 :: r ∧ goodL t = true ∧ validU (useP (unhex t)) = false) ∨ (e = 5 ∧ (post.length < 73 ∨ okHex (post.take 72) = false ∨ ∃ c, post[72]? = some c ∧ c ≠ 10))) : FnIs Try.prog 9 [.d (strD (textL m ++ post))] [] (.bool true) [] := by
  have hd : decide ((400 : Int) < ((textL m ++ post).length : Int)) = false := decide_eq_false (by omega)
  have hl := textL_len m fun u hu => (hv u hu).1
  have hal : (textL m ++ post).length = (textL m).length + post.length := List.length_append
  have hP := parse_text (textL m ++ post) (by omega)
  rw [parseT_post hv, hF] at hP
  have hP2 := parse_text (textL m) (by omega)
  rw [parseT_text hv] at hP2
  have w54 : IntKind.i64.wrap (((m.length + 1 : Nat) : Int) - 1) = ((m.length : Nat) : Int) := by rw [wrap_i64 (by omega) (by omega)]; omega
  have w55 : IntKind.i64.wrap (((m.length : Nat) : Int) * 73) = ((m.length * 73 : Nat) : Int) := by rw [wrap_i64 (by omega) (by omega)]; push_cast; rfl
  have hle : m.length * 73 ≤ (textL m ++ post).length := by omega
  have ht1 : (textL m ++ post).take (m.length * 73) = textL m := take_of (by omega)
  have hd1 : (textL m ++ post).drop (m.length * 73) = post := drop_of (by omega)
  have q50 : decide (((m.length + 1 : Nat) : Int) < 1) = false := decide_eq_false (by omega)
  have q58 : decide (((textL m ++ post).length : Int) ≤ ((m.length * 73 : Nat) : Int)) = false := decide_eq_false (by omega)
  have q83 : (!decide ((m.length : Int) = ((m.length : Nat) : Int))) = false := by simp
  refine fnIs_of tab_ok Try.func9 rfl rfl rfl ?_
  rcases he with ⟨rfl, t, r, ht, hg, hvb⟩ | ⟨rfl, hb | hb⟩
  · have htl := goodL_len hg
    have hpl : post.length = t.length + (r.length + 1) := by rw [ht]; simp
    have q92 : decide ((73 : Int) ≤ (post.length : Int)) = true := decide_eq_true (by omega)
    have h64 : 64 ≤ post.length := by omega
    have h72 : 72 ≤ post.length := by omega
    have m3 : post.take 72 = t := by rw [ht]; exact take_of htl
    have m1 : (post.drop 56).take (64 - 56) = (t.drop 56).take (64 - 56) := by
      rw [ht, List.drop_append_of_le_length (by omega), List.take_append_of_le_length (by rw [List.length_drop]; omega)]
    have m2 : (post.drop 64).take (72 - 64) = (t.drop 64).take (72 - 64) := by
      rw [ht, List.drop_append_of_le_length (by omega), List.take_append_of_le_length (by rw [List.length_drop]; omega)]
    have q98 := stop_arg hg hvb
    have hD := digits_is t (by omega)
    rw [show okHex t = true by simp only [goodL, Bool.and_eq_true] at hg; exact hg.2] at hD
    have hc : post[72]? = some 10 := by rw [ht, List.getElem?_append_right (by omega), htl]; rfl
    refine wc_seq ?_
    refine wc_region ?_
    refine reg_quiet rfl (step_C tab_ok (fun K hk => hk)) ?_
    refine reg_nil ?_
    refine seq_n ?_
    refine wc_seq ?_
    refine wc_seq ?_
    refine wc_region ?_
    refine reg_quiet rfl (step_C tab_ok (fun K hk => hk)) ?_
    refine reg_quiet rfl (len_s tab_ok rfl rfl) ?_
    refine reg_quiet rfl (step_C tab_ok (fun K hk => hk)) ?_
    refine reg_nil ?_
    refine seq_n ?_
    refine wc_false rfl (by assumption) ?_
    refine wc_skip ?_
    refine seq_n ?_
    refine wc_seq ?_
    refine wc_region ?_
    refine reg_quiet rfl (step_C tab_ok (fun K hk => hk)) ?_
    refine reg_quiet rfl (call_r hP rfl rfl (arg_e arg_nil) (.inl rfl) (fun _ => rfl)) ?_
    refine reg_quiet rfl (step_C tab_ok (fun K hk => hk)) ?_
    refine reg_quiet rfl (step_C tab_ok (fun K hk => hk)) ?_
    refine reg_quiet rfl (step_C tab_ok (fun K hk => hk)) ?_
    refine reg_quiet rfl (step_C tab_ok (fun K hk => hk)) ?_
    refine reg_new (step_C tab_ok (fun K hk => hk)) rfl ?_
    refine reg_store (store_row tab_ok rfl rfl rfl ⟨_, ⟨rfl, rfl, rfl⟩, rfl⟩ rfl) ?_
    refine reg_quiet rfl (step_C tab_ok (fun K hk => hk)) ?_
    refine reg_quiet rfl (step_C tab_ok (fun K hk => hk)) ?_
    refine reg_nil ?_
    refine seq_n ?_
    refine wc_seq ?_
    refine wc_seq ?_
    refine wc_region ?_
    refine reg_quiet rfl (step_C tab_ok (fun K hk => hk)) ?_
    refine reg_quiet rfl (step_C tab_ok (fun K hk => hk)) ?_
    refine reg_nil ?_
    refine seq_n ?_
    refine wc_false rfl rfl ?_
    refine wc_skip ?_
    refine seq_n ?_
    refine wc_seq ?_
    refine wc_seq ?_
    refine wc_region ?_
    refine reg_quiet rfl (step_C tab_ok (fun K hk => hk)) ?_
    refine reg_quiet rfl (load_box tab_ok rfl rfl ⟨_, rfl, rfl⟩ rfl) ?_
    refine reg_quiet rfl (len_arx tab_ok rfl rfl) ?_
    refine reg_quiet rfl (step_C tab_ok (fun K hk => hk)) ?_
    refine reg_quiet rfl (step_C tab_ok (fun K hk => hk)) ?_
    refine reg_on rfl rfl rfl ?_
    refine reg_quiet rfl (step_C tab_ok (fun K hk => hk)) ?_
    refine reg_on rfl rfl rfl ?_
    refine reg_quiet rfl (step_C tab_ok (fun K hk => hk)) ?_
    refine reg_quiet rfl (pick_F tab_ok rfl rfl rfl) ?_
    refine reg_quiet rfl (step_C tab_ok (fun K hk => hk)) ?_
    refine reg_on rfl rfl rfl ?_
    refine reg_quiet rfl (step_C tab_ok (fun K hk => hk)) ?_
    refine reg_on rfl rfl rfl ?_
    refine reg_quiet rfl (sub_int (m := ((m.length : Nat) : Int)) tab_ok rfl rfl w54) ?_
    refine reg_on rfl rfl rfl ?_
    refine reg_quiet rfl (mul_int (m := ((m.length * 73 : Nat) : Int)) tab_ok rfl rfl w55) ?_
    refine reg_on rfl rfl rfl ?_
    refine reg_quiet rfl (step_C tab_ok (fun K hk => hk)) ?_
    refine reg_on rfl rfl rfl ?_
    refine reg_quiet rfl (len_s tab_ok rfl rfl) ?_
    refine reg_on rfl rfl rfl ?_
    refine reg_quiet rfl (step_C tab_ok (fun K hk => hk)) ?_
    refine reg_quiet rfl (pick_F tab_ok rfl rfl rfl) ?_
    refine reg_nil ?_
    refine seq_n ?_
    refine wc_false rfl (by assumption) ?_
    refine wc_skip ?_
    refine seq_n ?_
    refine wc_seq ?_
    refine wc_region ?_
    refine reg_quiet rfl (step_C tab_ok (fun K hk => hk)) ?_
    refine reg_quiet rfl (sub_int (m := ((m.length : Nat) : Int)) tab_ok rfl rfl w54) ?_
    refine reg_quiet rfl (mul_int (m := ((m.length * 73 : Nat) : Int)) tab_ok rfl rfl w55) ?_
    refine reg_quiet rfl (step_C tab_ok (fun K hk => hk)) ?_
    refine reg_nil ?_
    refine seq_n ?_
    refine wc_seq ?_
    refine wc_region ?_
    refine reg_quiet rfl (step_C tab_ok (fun K hk => hk)) ?_
    refine reg_quiet rfl (step_C tab_ok (fun K hk => hk)) ?_
    refine reg_quiet rfl (str_to (hi := m.length * 73) (m := textL m) tab_ok rfl rfl rfl hle ht1) ?_
    refine reg_quiet rfl (call_r hP2 rfl rfl (arg_e arg_nil) (.inl rfl) (fun _ => rfl)) ?_
    refine reg_quiet rfl (step_C tab_ok (fun K hk => hk)) ?_
    refine reg_quiet rfl (step_C tab_ok (fun K hk => hk)) ?_
    refine reg_quiet rfl (step_C tab_ok (fun K hk => hk)) ?_
    refine reg_quiet rfl (step_C tab_ok (fun K hk => hk)) ?_
    refine reg_new (step_C tab_ok (fun K hk => hk)) rfl ?_
    refine reg_store (store_row tab_ok rfl rfl rfl ⟨_, ⟨rfl, rfl, rfl⟩, rfl⟩ rfl) ?_
    refine reg_quiet rfl (step_C tab_ok (fun K hk => hk)) ?_
    refine reg_quiet rfl (step_C tab_ok (fun K hk => hk)) ?_
    refine reg_nil ?_
    refine seq_n ?_
    refine wc_seq ?_
    refine wc_seq ?_
    refine wc_region ?_
    refine reg_quiet rfl (step_C tab_ok (fun K hk => hk)) ?_
    refine reg_quiet rfl (step_C tab_ok (fun K hk => hk)) ?_
    refine reg_quiet rfl (step_C tab_ok (fun K hk => hk)) ?_
    refine reg_on rfl rfl rfl ?_
    refine reg_quiet rfl (step_C tab_ok (fun K hk => hk)) ?_
    refine reg_on rfl rfl rfl ?_
    refine reg_quiet rfl (step_C tab_ok (fun K hk => hk)) ?_
    refine reg_quiet rfl (pick_F tab_ok rfl rfl rfl) ?_
    refine reg_quiet rfl (step_C tab_ok (fun K hk => hk)) ?_
    refine reg_on rfl rfl rfl ?_
    refine reg_quiet rfl (step_C tab_ok (fun K hk => hk)) ?_
    refine reg_on rfl rfl rfl ?_
    refine reg_quiet rfl (load_box tab_ok rfl rfl ⟨_, rfl, rfl⟩ rfl) ?_
    refine reg_on rfl rfl rfl ?_
    refine reg_quiet rfl (len_arx tab_ok rfl rfl) ?_
    refine reg_on rfl rfl rfl ?_
    refine reg_quiet rfl (step_C tab_ok (fun K hk => hk)) ?_
    refine reg_on rfl rfl rfl ?_
    refine reg_quiet rfl (sub_int (m := ((m.length : Nat) : Int)) tab_ok rfl rfl w54) ?_
    refine reg_on rfl rfl rfl ?_
    refine reg_quiet rfl (step_C tab_ok (fun K hk => hk)) ?_
    refine reg_quiet rfl (pick_F tab_ok rfl rfl rfl) ?_
    refine reg_nil ?_
    refine seq_n ?_
    refine wc_false rfl (by assumption) ?_
    refine wc_skip ?_
    refine seq_n ?_
    refine wc_seq ?_
    refine wc_region ?_
    refine reg_quiet rfl (step_C tab_ok (fun K hk => hk)) ?_
    refine reg_quiet rfl (step_C tab_ok (fun K hk => hk)) ?_
    refine reg_quiet rfl (str_from (lo := m.length * 73) (m := post) tab_ok rfl rfl rfl hle hd1) ?_
    refine reg_quiet rfl (step_C tab_ok (fun K hk => hk)) ?_
    refine reg_nil ?_
    refine seq_n ?_
    refine wc_seq ?_
    refine wc_seq ?_
    refine wc_region ?_
    refine reg_quiet rfl (step_C tab_ok (fun K hk => hk)) ?_
    refine reg_quiet rfl (step_C tab_ok (fun K hk => hk)) ?_
    refine reg_nil ?_
    refine seq_n ?_
    refine wc_true rfl rfl ?_
    refine wc_seq ?_
    refine wc_draw (by kernel_rfl) ?_
    refine dreg_q [12] [] rfl (step_C tab_ok (fun K hk => hk)) ?_
    refine dreg_q [90] [] rfl (len_s tab_ok rfl rfl) ?_
    refine dreg_q [91] [] rfl (step_C tab_ok (fun K hk => hk)) ?_
    refine dreg_q [92] [] rfl (step_C tab_ok (fun K hk => hk)) ?_
    refine dreg_onq [93, 12] [] rfl rfl (by assumption) rfl (step_C tab_ok (fun K hk => hk)) ?_
    refine dreg_onq [93, 94] [] rfl rfl (by assumption) rfl (str_mid (lo := 56) (hi := 64) (m := (t.drop 56).take (64 - 56)) tab_ok rfl rfl rfl rfl h64 (by decide) m1) ?_
    refine dreg_onq [93, 12] [] rfl rfl (by assumption) rfl (step_C tab_ok (fun K hk => hk)) ?_
    refine dreg_onq [93, 96] [] rfl rfl (by assumption) rfl (str_mid (lo := 64) (hi := 72) (m := (t.drop 64).take (72 - 64)) tab_ok rfl rfl rfl rfl h72 (by decide) m2) ?_
    refine dreg_onq [93, 95, 97] [] rfl rfl (by assumption) rfl (gtr_s rfl rfl) ?_
    refine dreg_q [93, 98] [] rfl (pick_T tab_ok rfl (by assumption) rfl) ?_
    refine dreg_q [99] [] rfl (step_C tab_ok (fun K hk => hk)) ?_
    refine dreg_onq [100, 12] [] rfl rfl (by assumption) rfl (step_C tab_ok (fun K hk => hk)) ?_
    refine dreg_onq [100, 101] [] rfl rfl (by assumption) rfl (str_to (hi := 72) (m := t) tab_ok rfl rfl rfl h72 m3) ?_
    refine dreg_onq [100, 102] [] rfl rfl (by assumption) rfl (call_r hD rfl rfl (arg_e arg_nil) (.inl rfl) (fun _ => rfl)) ?_
    refine dreg_q [100, 103] [] rfl (pick_T tab_ok rfl (by assumption) rfl) ?_
    refine dreg_q [104] [] rfl (step_C tab_ok (fun K hk => hk)) ?_
    refine dreg_onq [105, 12] [] rfl rfl rfl rfl (step_C tab_ok (fun K hk => hk)) ?_
    refine dreg_onq [105, 106] [] rfl rfl rfl rfl (index_s (m := 72) tab_ok rfl rfl rfl hc) ?_
    refine dreg_onq [105, 107] [] rfl rfl rfl rfl (step_C tab_ok (fun K hk => hk)) ?_
    refine dreg_q [105, 108] [] rfl (pick_T tab_ok rfl rfl rfl) ?_
    refine dreg_q [109] [] rfl (step_C tab_ok (fun K hk => hk)) ?_
    refine dreg_onq [110] [] rfl rfl rfl rfl (call_r lives_is rfl rfl arg_nil (.inl rfl) (fun _ => rfl)) ?_
    refine dreg_q [110, 111] [] rfl (pick_T tab_ok rfl rfl rfl) ?_
    refine dreg_q [112] [] rfl (step_C tab_ok (fun K hk => hk)) ?_
    refine dreg_end (by kernel_rfl) ?_
    refine seq_n ?_
    refine wc_ret ?_
    refine seq_r ?_
    exact ⟨trivial, [], .of rfl rfl rfl rfl rfl ⟨⟨_, rfl, AVLe.of_eq rfl⟩, rfl, trivial⟩ trivial⟩
  · have q118 : decide ((post.length : Int) < 73) = true := decide_eq_true (by omega)
    refine wc_seq ?_
    refine wc_region ?_
    refine reg_quiet rfl (step_C tab_ok (fun K hk => hk)) ?_
    refine reg_nil ?_
    refine seq_n ?_
    refine wc_seq ?_
    refine wc_seq ?_
    refine wc_region ?_
    refine reg_quiet rfl (step_C tab_ok (fun K hk => hk)) ?_
    refine reg_quiet rfl (len_s tab_ok rfl rfl) ?_
    refine reg_quiet rfl (step_C tab_ok (fun K hk => hk)) ?_
    refine reg_nil ?_
    refine seq_n ?_
    refine wc_false rfl (by assumption) ?_
    refine wc_skip ?_
    refine seq_n ?_
    refine wc_seq ?_
    refine wc_region ?_
    refine reg_quiet rfl (step_C tab_ok (fun K hk => hk)) ?_
    refine reg_quiet rfl (call_r hP rfl rfl (arg_e arg_nil) (.inl rfl) (fun _ => rfl)) ?_
    refine reg_quiet rfl (step_C tab_ok (fun K hk => hk)) ?_
    refine reg_quiet rfl (step_C tab_ok (fun K hk => hk)) ?_
    refine reg_quiet rfl (step_C tab_ok (fun K hk => hk)) ?_
    refine reg_quiet rfl (step_C tab_ok (fun K hk => hk)) ?_
    refine reg_new (step_C tab_ok (fun K hk => hk)) rfl ?_
    refine reg_store (store_row tab_ok rfl rfl rfl ⟨_, ⟨rfl, rfl, rfl⟩, rfl⟩ rfl) ?_
    refine reg_quiet rfl (step_C tab_ok (fun K hk => hk)) ?_
    refine reg_quiet rfl (step_C tab_ok (fun K hk => hk)) ?_
    refine reg_nil ?_
    refine seq_n ?_
    refine wc_seq ?_
    refine wc_seq ?_
    refine wc_region ?_
    refine reg_quiet rfl (step_C tab_ok (fun K hk => hk)) ?_
    refine reg_quiet rfl (step_C tab_ok (fun K hk => hk)) ?_
    refine reg_nil ?_
    refine seq_n ?_
    refine wc_false rfl rfl ?_
    refine wc_skip ?_
    refine seq_n ?_
    refine wc_seq ?_
    refine wc_seq ?_
    refine wc_region ?_
    refine reg_quiet rfl (step_C tab_ok (fun K hk => hk)) ?_
    refine reg_quiet rfl (load_box tab_ok rfl rfl ⟨_, rfl, rfl⟩ rfl) ?_
    refine reg_quiet rfl (len_arx tab_ok rfl rfl) ?_
    refine reg_quiet rfl (step_C tab_ok (fun K hk => hk)) ?_
    refine reg_quiet rfl (step_C tab_ok (fun K hk => hk)) ?_
    refine reg_on rfl rfl rfl ?_
    refine reg_quiet rfl (step_C tab_ok (fun K hk => hk)) ?_
    refine reg_on rfl rfl rfl ?_
    refine reg_quiet rfl (step_C tab_ok (fun K hk => hk)) ?_
    refine reg_quiet rfl (pick_F tab_ok rfl rfl rfl) ?_
    refine reg_quiet rfl (step_C tab_ok (fun K hk => hk)) ?_
    refine reg_on rfl rfl rfl ?_
    refine reg_quiet rfl (step_C tab_ok (fun K hk => hk)) ?_
    refine reg_on rfl rfl rfl ?_
    refine reg_quiet rfl (sub_int (m := ((m.length : Nat) : Int)) tab_ok rfl rfl w54) ?_
    refine reg_on rfl rfl rfl ?_
    refine reg_quiet rfl (mul_int (m := ((m.length * 73 : Nat) : Int)) tab_ok rfl rfl w55) ?_
    refine reg_on rfl rfl rfl ?_
    refine reg_quiet rfl (step_C tab_ok (fun K hk => hk)) ?_
    refine reg_on rfl rfl rfl ?_
    refine reg_quiet rfl (len_s tab_ok rfl rfl) ?_
    refine reg_on rfl rfl rfl ?_
    refine reg_quiet rfl (step_C tab_ok (fun K hk => hk)) ?_
    refine reg_quiet rfl (pick_F tab_ok rfl rfl rfl) ?_
    refine reg_nil ?_
    refine seq_n ?_
    refine wc_false rfl (by assumption) ?_
    refine wc_skip ?_
    refine seq_n ?_
    refine wc_seq ?_
    refine wc_region ?_
    refine reg_quiet rfl (step_C tab_ok (fun K hk => hk)) ?_
    refine reg_quiet rfl (sub_int (m := ((m.length : Nat) : Int)) tab_ok rfl rfl w54) ?_
    refine reg_quiet rfl (mul_int (m := ((m.length * 73 : Nat) : Int)) tab_ok rfl rfl w55) ?_
    refine reg_quiet rfl (step_C tab_ok (fun K hk => hk)) ?_
    refine reg_nil ?_
    refine seq_n ?_
    refine wc_seq ?_
    refine wc_region ?_
    refine reg_quiet rfl (step_C tab_ok (fun K hk => hk)) ?_
    refine reg_quiet rfl (step_C tab_ok (fun K hk => hk)) ?_
    refine reg_quiet rfl (str_to (hi := m.length * 73) (m := textL m) tab_ok rfl rfl rfl hle ht1) ?_
    refine reg_quiet rfl (call_r hP2 rfl rfl (arg_e arg_nil) (.inl rfl) (fun _ => rfl)) ?_
    refine reg_quiet rfl (step_C tab_ok (fun K hk => hk)) ?_
    refine reg_quiet rfl (step_C tab_ok (fun K hk => hk)) ?_
    refine reg_quiet rfl (step_C tab_ok (fun K hk => hk)) ?_
    refine reg_quiet rfl (step_C tab_ok (fun K hk => hk)) ?_
    refine reg_new (step_C tab_ok (fun K hk => hk)) rfl ?_
    refine reg_store (store_row tab_ok rfl rfl rfl ⟨_, ⟨rfl, rfl, rfl⟩, rfl⟩ rfl) ?_
    refine reg_quiet rfl (step_C tab_ok (fun K hk => hk)) ?_
    refine reg_quiet rfl (step_C tab_ok (fun K hk => hk)) ?_
    refine reg_nil ?_
    refine seq_n ?_
    refine wc_seq ?_
    refine wc_seq ?_
    refine wc_region ?_
    refine reg_quiet rfl (step_C tab_ok (fun K hk => hk)) ?_
    refine reg_quiet rfl (step_C tab_ok (fun K hk => hk)) ?_
    refine reg_quiet rfl (step_C tab_ok (fun K hk => hk)) ?_
    refine reg_on rfl rfl rfl ?_
    refine reg_quiet rfl (step_C tab_ok (fun K hk => hk)) ?_
    refine reg_on rfl rfl rfl ?_
    refine reg_quiet rfl (step_C tab_ok (fun K hk => hk)) ?_
    refine reg_quiet rfl (pick_F tab_ok rfl rfl rfl) ?_
    refine reg_quiet rfl (step_C tab_ok (fun K hk => hk)) ?_
    refine reg_on rfl rfl rfl ?_
    refine reg_quiet rfl (step_C tab_ok (fun K hk => hk)) ?_
    refine reg_on rfl rfl rfl ?_
    refine reg_quiet rfl (load_box tab_ok rfl rfl ⟨_, rfl, rfl⟩ rfl) ?_
    refine reg_on rfl rfl rfl ?_
    refine reg_quiet rfl (len_arx tab_ok rfl rfl) ?_
    refine reg_on rfl rfl rfl ?_
    refine reg_quiet rfl (step_C tab_ok (fun K hk => hk)) ?_
    refine reg_on rfl rfl rfl ?_
    refine reg_quiet rfl (sub_int (m := ((m.length : Nat) : Int)) tab_ok rfl rfl w54) ?_
    refine reg_on rfl rfl rfl ?_
    refine reg_quiet rfl (step_C tab_ok (fun K hk => hk)) ?_
    refine reg_quiet rfl (pick_F tab_ok rfl rfl rfl) ?_
    refine reg_nil ?_
    refine seq_n ?_
    refine wc_false rfl (by assumption) ?_
    refine wc_skip ?_
    refine seq_n ?_
    refine wc_seq ?_
    refine wc_region ?_
    refine reg_quiet rfl (step_C tab_ok (fun K hk => hk)) ?_
    refine reg_quiet rfl (step_C tab_ok (fun K hk => hk)) ?_
    refine reg_quiet rfl (str_from (lo := m.length * 73) (m := post) tab_ok rfl rfl rfl hle hd1) ?_
    refine reg_quiet rfl (step_C tab_ok (fun K hk => hk)) ?_
    refine reg_nil ?_
    refine seq_n ?_
    refine wc_seq ?_
    refine wc_seq ?_
    refine wc_region ?_
    refine reg_quiet rfl (step_C tab_ok (fun K hk => hk)) ?_
    refine reg_quiet rfl (step_C tab_ok (fun K hk => hk)) ?_
    refine reg_nil ?_
    refine seq_n ?_
    refine wc_false rfl rfl ?_
    refine wc_skip ?_
    refine seq_n ?_
    refine wc_seq ?_
    refine wc_region ?_
    refine reg_quiet rfl (step_C tab_ok (fun K hk => hk)) ?_
    refine reg_quiet rfl (step_C tab_ok (fun K hk => hk)) ?_
    refine reg_quiet rfl (step_C tab_ok (fun K hk => hk)) ?_
    refine reg_on rfl rfl rfl ?_
    refine reg_quiet rfl (step_C tab_ok (fun K hk => hk)) ?_
    refine reg_on rfl rfl rfl ?_
    refine reg_quiet rfl (len_s tab_ok rfl rfl) ?_
    refine reg_on rfl rfl rfl ?_
    refine reg_quiet rfl (step_C tab_ok (fun K hk => hk)) ?_
    refine reg_on rfl rfl rfl ?_
    refine reg_quiet rfl (step_C tab_ok (fun K hk => hk)) ?_
    refine reg_skip rfl rfl (by assumption) rfl rfl ?_
    refine reg_skip rfl rfl (by assumption) rfl rfl ?_
    refine reg_skip rfl rfl (by assumption) rfl rfl ?_
    refine reg_skip rfl rfl (by assumption) rfl rfl ?_
    refine reg_on rfl rfl rfl ?_
    refine reg_quiet rfl (pick_T tab_ok rfl (by assumption) rfl) ?_
    refine reg_on rfl rfl rfl ?_
    refine reg_quiet rfl (step_C tab_ok (fun K hk => hk)) ?_
    refine reg_skip rfl rfl rfl rfl rfl ?_
    refine reg_skip rfl rfl rfl rfl rfl ?_
    refine reg_skip rfl rfl rfl rfl rfl ?_
    refine reg_on rfl rfl rfl ?_
    refine reg_quiet rfl (pick_T tab_ok rfl rfl rfl) ?_
    refine reg_quiet rfl (pick_T tab_ok rfl rfl rfl) ?_
    refine reg_quiet rfl (step_C tab_ok (fun K hk => hk)) ?_
    refine reg_on rfl rfl rfl ?_
    refine reg_quiet rfl (call_r lives_is rfl rfl arg_nil (.inl rfl) (fun _ => rfl)) ?_
    refine reg_quiet rfl (pick_T tab_ok rfl rfl rfl) ?_
    refine reg_quiet rfl (step_C tab_ok (fun K hk => hk)) ?_
    refine reg_nil ?_
    refine seq_n ?_
    refine wc_ret ?_
    exact ⟨trivial, [], .of rfl rfl rfl rfl rfl ⟨⟨_, rfl, AVLe.of_eq rfl⟩, rfl, trivial⟩ trivial⟩
  · by_cases hlt : post.length < 73
    · have q118 : decide ((post.length : Int) < 73) = true := decide_eq_true (by omega)
      refine wc_seq ?_
      refine wc_region ?_
      refine reg_quiet rfl (step_C tab_ok (fun K hk => hk)) ?_
      refine reg_nil ?_
      refine seq_n ?_
      refine wc_seq ?_
      refine wc_seq ?_
      refine wc_region ?_
      refine reg_quiet rfl (step_C tab_ok (fun K hk => hk)) ?_
      refine reg_quiet rfl (len_s tab_ok rfl rfl) ?_
      refine reg_quiet rfl (step_C tab_ok (fun K hk => hk)) ?_
      refine reg_nil ?_
      refine seq_n ?_
      refine wc_false rfl (by assumption) ?_
      refine wc_skip ?_
      refine seq_n ?_
      refine wc_seq ?_
      refine wc_region ?_
      refine reg_quiet rfl (step_C tab_ok (fun K hk => hk)) ?_
      refine reg_quiet rfl (call_r hP rfl rfl (arg_e arg_nil) (.inl rfl) (fun _ => rfl)) ?_
      refine reg_quiet rfl (step_C tab_ok (fun K hk => hk)) ?_
      refine reg_quiet rfl (step_C tab_ok (fun K hk => hk)) ?_
      refine reg_quiet rfl (step_C tab_ok (fun K hk => hk)) ?_
      refine reg_quiet rfl (step_C tab_ok (fun K hk => hk)) ?_
      refine reg_new (step_C tab_ok (fun K hk => hk)) rfl ?_
      refine reg_store (store_row tab_ok rfl rfl rfl ⟨_, ⟨rfl, rfl, rfl⟩, rfl⟩ rfl) ?_
      refine reg_quiet rfl (step_C tab_ok (fun K hk => hk)) ?_
      refine reg_quiet rfl (step_C tab_ok (fun K hk => hk)) ?_
      refine reg_nil ?_
      refine seq_n ?_
      refine wc_seq ?_
      refine wc_seq ?_
      refine wc_region ?_
      refine reg_quiet rfl (step_C tab_ok (fun K hk => hk)) ?_
      refine reg_quiet rfl (step_C tab_ok (fun K hk => hk)) ?_
      refine reg_nil ?_
      refine seq_n ?_
      refine wc_false rfl rfl ?_
      refine wc_skip ?_
      refine seq_n ?_
      refine wc_seq ?_
      refine wc_seq ?_
      refine wc_region ?_
      refine reg_quiet rfl (step_C tab_ok (fun K hk => hk)) ?_
      refine reg_quiet rfl (load_box tab_ok rfl rfl ⟨_, rfl, rfl⟩ rfl) ?_
      refine reg_quiet rfl (len_arx tab_ok rfl rfl) ?_
      refine reg_quiet rfl (step_C tab_ok (fun K hk => hk)) ?_
      refine reg_quiet rfl (step_C tab_ok (fun K hk => hk)) ?_
      refine reg_on rfl rfl rfl ?_
      refine reg_quiet rfl (step_C tab_ok (fun K hk => hk)) ?_
      refine reg_on rfl rfl rfl ?_
      refine reg_quiet rfl (step_C tab_ok (fun K hk => hk)) ?_
      refine reg_quiet rfl (pick_F tab_ok rfl rfl rfl) ?_
      refine reg_quiet rfl (step_C tab_ok (fun K hk => hk)) ?_
      refine reg_on rfl rfl rfl ?_
      refine reg_quiet rfl (step_C tab_ok (fun K hk => hk)) ?_
      refine reg_on rfl rfl rfl ?_
      refine reg_quiet rfl (sub_int (m := ((m.length : Nat) : Int)) tab_ok rfl rfl w54) ?_
      refine reg_on rfl rfl rfl ?_
      refine reg_quiet rfl (mul_int (m := ((m.length * 73 : Nat) : Int)) tab_ok rfl rfl w55) ?_
      refine reg_on rfl rfl rfl ?_
      refine reg_quiet rfl (step_C tab_ok (fun K hk => hk)) ?_
      refine reg_on rfl rfl rfl ?_
      refine reg_quiet rfl (len_s tab_ok rfl rfl) ?_
      refine reg_on rfl rfl rfl ?_
      refine reg_quiet rfl (step_C tab_ok (fun K hk => hk)) ?_
      refine reg_quiet rfl (pick_F tab_ok rfl rfl rfl) ?_
      refine reg_nil ?_
      refine seq_n ?_
      refine wc_false rfl (by assumption) ?_
      refine wc_skip ?_
      refine seq_n ?_
      refine wc_seq ?_
      refine wc_region ?_
      refine reg_quiet rfl (step_C tab_ok (fun K hk => hk)) ?_
      refine reg_quiet rfl (sub_int (m := ((m.length : Nat) : Int)) tab_ok rfl rfl w54) ?_
      refine reg_quiet rfl (mul_int (m := ((m.length * 73 : Nat) : Int)) tab_ok rfl rfl w55) ?_
      refine reg_quiet rfl (step_C tab_ok (fun K hk => hk)) ?_
      refine reg_nil ?_
      refine seq_n ?_
      refine wc_seq ?_
      refine wc_region ?_
      refine reg_quiet rfl (step_C tab_ok (fun K hk => hk)) ?_
      refine reg_quiet rfl (step_C tab_ok (fun K hk => hk)) ?_
      refine reg_quiet rfl (str_to (hi := m.length * 73) (m := textL m) tab_ok rfl rfl rfl hle ht1) ?_
      refine reg_quiet rfl (call_r hP2 rfl rfl (arg_e arg_nil) (.inl rfl) (fun _ => rfl)) ?_
      refine reg_quiet rfl (step_C tab_ok (fun K hk => hk)) ?_
      refine reg_quiet rfl (step_C tab_ok (fun K hk => hk)) ?_
      refine reg_quiet rfl (step_C tab_ok (fun K hk => hk)) ?_
      refine reg_quiet rfl (step_C tab_ok (fun K hk => hk)) ?_
      refine reg_new (step_C tab_ok (fun K hk => hk)) rfl ?_
      refine reg_store (store_row tab_ok rfl rfl rfl ⟨_, ⟨rfl, rfl, rfl⟩, rfl⟩ rfl) ?_
      refine reg_quiet rfl (step_C tab_ok (fun K hk => hk)) ?_
      refine reg_quiet rfl (step_C tab_ok (fun K hk => hk)) ?_
      refine reg_nil ?_
      refine seq_n ?_
      refine wc_seq ?_
      refine wc_seq ?_
      refine wc_region ?_
      refine reg_quiet rfl (step_C tab_ok (fun K hk => hk)) ?_
      refine reg_quiet rfl (step_C tab_ok (fun K hk => hk)) ?_
      refine reg_quiet rfl (step_C tab_ok (fun K hk => hk)) ?_
      refine reg_on rfl rfl rfl ?_
      refine reg_quiet rfl (step_C tab_ok (fun K hk => hk)) ?_
      refine reg_on rfl rfl rfl ?_
      refine reg_quiet rfl (step_C tab_ok (fun K hk => hk)) ?_
      refine reg_quiet rfl (pick_F tab_ok rfl rfl rfl) ?_
      refine reg_quiet rfl (step_C tab_ok (fun K hk => hk)) ?_
      refine reg_on rfl rfl rfl ?_
      refine reg_quiet rfl (step_C tab_ok (fun K hk => hk)) ?_
      refine reg_on rfl rfl rfl ?_
      refine reg_quiet rfl (load_box tab_ok rfl rfl ⟨_, rfl, rfl⟩ rfl) ?_
      refine reg_on rfl rfl rfl ?_
      refine reg_quiet rfl (len_arx tab_ok rfl rfl) ?_
      refine reg_on rfl rfl rfl ?_
      refine reg_quiet rfl (step_C tab_ok (fun K hk => hk)) ?_
      refine reg_on rfl rfl rfl ?_
      refine reg_quiet rfl (sub_int (m := ((m.length : Nat) : Int)) tab_ok rfl rfl w54) ?_
      refine reg_on rfl rfl rfl ?_
      refine reg_quiet rfl (step_C tab_ok (fun K hk => hk)) ?_
      refine reg_quiet rfl (pick_F tab_ok rfl rfl rfl) ?_
      refine reg_nil ?_
      refine seq_n ?_
      refine wc_false rfl (by assumption) ?_
      refine wc_skip ?_
      refine seq_n ?_
      refine wc_seq ?_
      refine wc_region ?_
      refine reg_quiet rfl (step_C tab_ok (fun K hk => hk)) ?_
      refine reg_quiet rfl (step_C tab_ok (fun K hk => hk)) ?_
      refine reg_quiet rfl (str_from (lo := m.length * 73) (m := post) tab_ok rfl rfl rfl hle hd1) ?_
      refine reg_quiet rfl (step_C tab_ok (fun K hk => hk)) ?_
      refine reg_nil ?_
      refine seq_n ?_
      refine wc_seq ?_
      refine wc_seq ?_
      refine wc_region ?_
      refine reg_quiet rfl (step_C tab_ok (fun K hk => hk)) ?_
      refine reg_quiet rfl (step_C tab_ok (fun K hk => hk)) ?_
      refine reg_nil ?_
      refine seq_n ?_
      refine wc_false rfl rfl ?_
      refine wc_skip ?_
      refine seq_n ?_
      refine wc_seq ?_
      refine wc_region ?_
      refine reg_quiet rfl (step_C tab_ok (fun K hk => hk)) ?_
      refine reg_quiet rfl (step_C tab_ok (fun K hk => hk)) ?_
      refine reg_quiet rfl (step_C tab_ok (fun K hk => hk)) ?_
      refine reg_on rfl rfl rfl ?_
      refine reg_quiet rfl (step_C tab_ok (fun K hk => hk)) ?_
      refine reg_on rfl rfl rfl ?_
      refine reg_quiet rfl (len_s tab_ok rfl rfl) ?_
      refine reg_on rfl rfl rfl ?_
      refine reg_quiet rfl (step_C tab_ok (fun K hk => hk)) ?_
      refine reg_on rfl rfl rfl ?_
      refine reg_quiet rfl (step_C tab_ok (fun K hk => hk)) ?_
      refine reg_skip rfl rfl (by assumption) rfl rfl ?_
      refine reg_skip rfl rfl (by assumption) rfl rfl ?_
      refine reg_skip rfl rfl (by assumption) rfl rfl ?_
      refine reg_skip rfl rfl (by assumption) rfl rfl ?_
      refine reg_on rfl rfl rfl ?_
      refine reg_quiet rfl (pick_T tab_ok rfl (by assumption) rfl) ?_
      refine reg_on rfl rfl rfl ?_
      refine reg_quiet rfl (step_C tab_ok (fun K hk => hk)) ?_
      refine reg_skip rfl rfl rfl rfl rfl ?_
      refine reg_skip rfl rfl rfl rfl rfl ?_
      refine reg_skip rfl rfl rfl rfl rfl ?_
      refine reg_on rfl rfl rfl ?_
      refine reg_quiet rfl (pick_T tab_ok rfl rfl rfl) ?_
      refine reg_quiet rfl (pick_T tab_ok rfl rfl rfl) ?_
      refine reg_quiet rfl (step_C tab_ok (fun K hk => hk)) ?_
      refine reg_on rfl rfl rfl ?_
      refine reg_quiet rfl (call_r lives_is rfl rfl arg_nil (.inl rfl) (fun _ => rfl)) ?_
      refine reg_quiet rfl (pick_T tab_ok rfl rfl rfl) ?_
      refine reg_quiet rfl (step_C tab_ok (fun K hk => hk)) ?_
      refine reg_nil ?_
      refine seq_n ?_
      refine wc_ret ?_
      exact ⟨trivial, [], .of rfl rfl rfl rfl rfl ⟨⟨_, rfl, AVLe.of_eq rfl⟩, rfl, trivial⟩ trivial⟩
    · have q118 : decide ((post.length : Int) < 73) = false := decide_eq_false (by omega)
      have h72 : 72 ≤ post.length := by omega
      have hD := digits_is (post.take 72) (by rw [List.length_take]; omega)
      cases ho : okHex (post.take 72) with
      | false =>
        rw [ho] at hD
        refine wc_seq ?_
        refine wc_region ?_
        refine reg_quiet rfl (step_C tab_ok (fun K hk => hk)) ?_
        refine reg_nil ?_
        refine seq_n ?_
        refine wc_seq ?_
        refine wc_seq ?_
        refine wc_region ?_
        refine reg_quiet rfl (step_C tab_ok (fun K hk => hk)) ?_
        refine reg_quiet rfl (len_s tab_ok rfl rfl) ?_
        refine reg_quiet rfl (step_C tab_ok (fun K hk => hk)) ?_
        refine reg_nil ?_
        refine seq_n ?_
        refine wc_false rfl (by assumption) ?_
        refine wc_skip ?_
        refine seq_n ?_
        refine wc_seq ?_
        refine wc_region ?_
        refine reg_quiet rfl (step_C tab_ok (fun K hk => hk)) ?_
        refine reg_quiet rfl (call_r hP rfl rfl (arg_e arg_nil) (.inl rfl) (fun _ => rfl)) ?_
        refine reg_quiet rfl (step_C tab_ok (fun K hk => hk)) ?_
        refine reg_quiet rfl (step_C tab_ok (fun K hk => hk)) ?_
        refine reg_quiet rfl (step_C tab_ok (fun K hk => hk)) ?_
        refine reg_quiet rfl (step_C tab_ok (fun K hk => hk)) ?_
        refine reg_new (step_C tab_ok (fun K hk => hk)) rfl ?_
        refine reg_store (store_row tab_ok rfl rfl rfl ⟨_, ⟨rfl, rfl, rfl⟩, rfl⟩ rfl) ?_
        refine reg_quiet rfl (step_C tab_ok (fun K hk => hk)) ?_
        refine reg_quiet rfl (step_C tab_ok (fun K hk => hk)) ?_
        refine reg_nil ?_
        refine seq_n ?_
        refine wc_seq ?_
        refine wc_seq ?_
        refine wc_region ?_
        refine reg_quiet rfl (step_C tab_ok (fun K hk => hk)) ?_
        refine reg_quiet rfl (step_C tab_ok (fun K hk => hk)) ?_
        refine reg_nil ?_
        refine seq_n ?_
        refine wc_false rfl rfl ?_
        refine wc_skip ?_
        refine seq_n ?_
        refine wc_seq ?_
        refine wc_seq ?_
        refine wc_region ?_
        refine reg_quiet rfl (step_C tab_ok (fun K hk => hk)) ?_
        refine reg_quiet rfl (load_box tab_ok rfl rfl ⟨_, rfl, rfl⟩ rfl) ?_
        refine reg_quiet rfl (len_arx tab_ok rfl rfl) ?_
        refine reg_quiet rfl (step_C tab_ok (fun K hk => hk)) ?_
        refine reg_quiet rfl (step_C tab_ok (fun K hk => hk)) ?_
        refine reg_on rfl rfl rfl ?_
        refine reg_quiet rfl (step_C tab_ok (fun K hk => hk)) ?_
        refine reg_on rfl rfl rfl ?_
        refine reg_quiet rfl (step_C tab_ok (fun K hk => hk)) ?_
        refine reg_quiet rfl (pick_F tab_ok rfl rfl rfl) ?_
        refine reg_quiet rfl (step_C tab_ok (fun K hk => hk)) ?_
        refine reg_on rfl rfl rfl ?_
        refine reg_quiet rfl (step_C tab_ok (fun K hk => hk)) ?_
        refine reg_on rfl rfl rfl ?_
        refine reg_quiet rfl (sub_int (m := ((m.length : Nat) : Int)) tab_ok rfl rfl w54) ?_
        refine reg_on rfl rfl rfl ?_
        refine reg_quiet rfl (mul_int (m := ((m.length * 73 : Nat) : Int)) tab_ok rfl rfl w55) ?_
        refine reg_on rfl rfl rfl ?_
        refine reg_quiet rfl (step_C tab_ok (fun K hk => hk)) ?_
        refine reg_on rfl rfl rfl ?_
        refine reg_quiet rfl (len_s tab_ok rfl rfl) ?_
        refine reg_on rfl rfl rfl ?_
        refine reg_quiet rfl (step_C tab_ok (fun K hk => hk)) ?_
        refine reg_quiet rfl (pick_F tab_ok rfl rfl rfl) ?_
        refine reg_nil ?_
        refine seq_n ?_
        refine wc_false rfl (by assumption) ?_
        refine wc_skip ?_
        refine seq_n ?_
        refine wc_seq ?_
        refine wc_region ?_
        refine reg_quiet rfl (step_C tab_ok (fun K hk => hk)) ?_
        refine reg_quiet rfl (sub_int (m := ((m.length : Nat) : Int)) tab_ok rfl rfl w54) ?_
        refine reg_quiet rfl (mul_int (m := ((m.length * 73 : Nat) : Int)) tab_ok rfl rfl w55) ?_
        refine reg_quiet rfl (step_C tab_ok (fun K hk => hk)) ?_
        refine reg_nil ?_
        refine seq_n ?_
        refine wc_seq ?_
        refine wc_region ?_
        refine reg_quiet rfl (step_C tab_ok (fun K hk => hk)) ?_
        refine reg_quiet rfl (step_C tab_ok (fun K hk => hk)) ?_
        refine reg_quiet rfl (str_to (hi := m.length * 73) (m := textL m) tab_ok rfl rfl rfl hle ht1) ?_
        refine reg_quiet rfl (call_r hP2 rfl rfl (arg_e arg_nil) (.inl rfl) (fun _ => rfl)) ?_
        refine reg_quiet rfl (step_C tab_ok (fun K hk => hk)) ?_
        refine reg_quiet rfl (step_C tab_ok (fun K hk => hk)) ?_
        refine reg_quiet rfl (step_C tab_ok (fun K hk => hk)) ?_
        refine reg_quiet rfl (step_C tab_ok (fun K hk => hk)) ?_
        refine reg_new (step_C tab_ok (fun K hk => hk)) rfl ?_
        refine reg_store (store_row tab_ok rfl rfl rfl ⟨_, ⟨rfl, rfl, rfl⟩, rfl⟩ rfl) ?_
        refine reg_quiet rfl (step_C tab_ok (fun K hk => hk)) ?_
        refine reg_quiet rfl (step_C tab_ok (fun K hk => hk)) ?_
        refine reg_nil ?_
        refine seq_n ?_
        refine wc_seq ?_
        refine wc_seq ?_
        refine wc_region ?_
        refine reg_quiet rfl (step_C tab_ok (fun K hk => hk)) ?_
        refine reg_quiet rfl (step_C tab_ok (fun K hk => hk)) ?_
        refine reg_quiet rfl (step_C tab_ok (fun K hk => hk)) ?_
        refine reg_on rfl rfl rfl ?_
        refine reg_quiet rfl (step_C tab_ok (fun K hk => hk)) ?_
        refine reg_on rfl rfl rfl ?_
        refine reg_quiet rfl (step_C tab_ok (fun K hk => hk)) ?_
        refine reg_quiet rfl (pick_F tab_ok rfl rfl rfl) ?_
        refine reg_quiet rfl (step_C tab_ok (fun K hk => hk)) ?_
        refine reg_on rfl rfl rfl ?_
        refine reg_quiet rfl (step_C tab_ok (fun K hk => hk)) ?_
        refine reg_on rfl rfl rfl ?_
        refine reg_quiet rfl (load_box tab_ok rfl rfl ⟨_, rfl, rfl⟩ rfl) ?_
        refine reg_on rfl rfl rfl ?_
        refine reg_quiet rfl (len_arx tab_ok rfl rfl) ?_
        refine reg_on rfl rfl rfl ?_
        refine reg_quiet rfl (step_C tab_ok (fun K hk => hk)) ?_
        refine reg_on rfl rfl rfl ?_
        refine reg_quiet rfl (sub_int (m := ((m.length : Nat) : Int)) tab_ok rfl rfl w54) ?_
        refine reg_on rfl rfl rfl ?_
        refine reg_quiet rfl (step_C tab_ok (fun K hk => hk)) ?_
        refine reg_quiet rfl (pick_F tab_ok rfl rfl rfl) ?_
        refine reg_nil ?_
        refine seq_n ?_
        refine wc_false rfl (by assumption) ?_
        refine wc_skip ?_
        refine seq_n ?_
        refine wc_seq ?_
        refine wc_region ?_
        refine reg_quiet rfl (step_C tab_ok (fun K hk => hk)) ?_
        refine reg_quiet rfl (step_C tab_ok (fun K hk => hk)) ?_
        refine reg_quiet rfl (str_from (lo := m.length * 73) (m := post) tab_ok rfl rfl rfl hle hd1) ?_
        refine reg_quiet rfl (step_C tab_ok (fun K hk => hk)) ?_
        refine reg_nil ?_
        refine seq_n ?_
        refine wc_seq ?_
        refine wc_seq ?_
        refine wc_region ?_
        refine reg_quiet rfl (step_C tab_ok (fun K hk => hk)) ?_
        refine reg_quiet rfl (step_C tab_ok (fun K hk => hk)) ?_
        refine reg_nil ?_
        refine seq_n ?_
        refine wc_false rfl rfl ?_
        refine wc_skip ?_
        refine seq_n ?_
        refine wc_seq ?_
        refine wc_region ?_
        refine reg_quiet rfl (step_C tab_ok (fun K hk => hk)) ?_
        refine reg_quiet rfl (step_C tab_ok (fun K hk => hk)) ?_
        refine reg_quiet rfl (step_C tab_ok (fun K hk => hk)) ?_
        refine reg_on rfl rfl rfl ?_
        refine reg_quiet rfl (step_C tab_ok (fun K hk => hk)) ?_
        refine reg_on rfl rfl rfl ?_
        refine reg_quiet rfl (len_s tab_ok rfl rfl) ?_
        refine reg_on rfl rfl rfl ?_
        refine reg_quiet rfl (step_C tab_ok (fun K hk => hk)) ?_
        refine reg_on rfl rfl rfl ?_
        refine reg_quiet rfl (step_C tab_ok (fun K hk => hk)) ?_
        refine reg_on rfl rfl (by assumption) ?_
        refine reg_quiet rfl (step_C tab_ok (fun K hk => hk)) ?_
        refine reg_on rfl rfl (by assumption) ?_
        refine reg_quiet rfl (str_to (hi := 72) (m := post.take 72) tab_ok rfl rfl rfl h72 rfl) ?_
        refine reg_on rfl rfl (by assumption) ?_
        refine reg_quiet rfl (call_r hD rfl rfl (arg_e arg_nil) (.inl rfl) (fun _ => rfl)) ?_
        refine reg_on rfl rfl (by assumption) ?_
        refine reg_quiet rfl (step_C tab_ok (fun K hk => hk)) ?_
        refine reg_on rfl rfl rfl ?_
        refine reg_quiet rfl (pick_F tab_ok rfl (by assumption) rfl) ?_
        refine reg_on rfl rfl rfl ?_
        refine reg_quiet rfl (step_C tab_ok (fun K hk => hk)) ?_
        refine reg_skip rfl rfl rfl rfl rfl ?_
        refine reg_skip rfl rfl rfl rfl rfl ?_
        refine reg_skip rfl rfl rfl rfl rfl ?_
        refine reg_on rfl rfl rfl ?_
        refine reg_quiet rfl (pick_T tab_ok rfl rfl rfl) ?_
        refine reg_quiet rfl (pick_T tab_ok rfl rfl rfl) ?_
        refine reg_quiet rfl (step_C tab_ok (fun K hk => hk)) ?_
        refine reg_on rfl rfl rfl ?_
        refine reg_quiet rfl (call_r lives_is rfl rfl arg_nil (.inl rfl) (fun _ => rfl)) ?_
        refine reg_quiet rfl (pick_T tab_ok rfl rfl rfl) ?_
        refine reg_quiet rfl (step_C tab_ok (fun K hk => hk)) ?_
        refine reg_nil ?_
        refine seq_n ?_
        refine wc_ret ?_
        exact ⟨trivial, [], .of rfl rfl rfl rfl rfl ⟨⟨_, rfl, AVLe.of_eq rfl⟩, rfl, trivial⟩ trivial⟩
      | true =>
        rw [ho] at hD
        obtain ⟨c, hc, hcn⟩ : ∃ c, post[72]? = some c ∧ c ≠ 10 := by
          rcases hb with hb | hb
          · rw [ho] at hb; cases hb
          · exact hb
        have q128 : (!decide ((c.toNat : Int) = 10)) = true := by
          rw [Bool.not_eq_true', decide_eq_false_iff_not]
          intro e
          apply hcn
          apply UInt8.toNat_inj.1
          have : (10 : UInt8).toNat = 10 := rfl
          omega
        refine wc_seq ?_
        refine wc_region ?_
        refine reg_quiet rfl (step_C tab_ok (fun K hk => hk)) ?_
        refine reg_nil ?_
        refine seq_n ?_
        refine wc_seq ?_
        refine wc_seq ?_
        refine wc_region ?_
        refine reg_quiet rfl (step_C tab_ok (fun K hk => hk)) ?_
        refine reg_quiet rfl (len_s tab_ok rfl rfl) ?_
        refine reg_quiet rfl (step_C tab_ok (fun K hk => hk)) ?_
        refine reg_nil ?_
        refine seq_n ?_
        refine wc_false rfl (by assumption) ?_
        refine wc_skip ?_
        refine seq_n ?_
        refine wc_seq ?_
        refine wc_region ?_
        refine reg_quiet rfl (step_C tab_ok (fun K hk => hk)) ?_
        refine reg_quiet rfl (call_r hP rfl rfl (arg_e arg_nil) (.inl rfl) (fun _ => rfl)) ?_
        refine reg_quiet rfl (step_C tab_ok (fun K hk => hk)) ?_
        refine reg_quiet rfl (step_C tab_ok (fun K hk => hk)) ?_
        refine reg_quiet rfl (step_C tab_ok (fun K hk => hk)) ?_
        refine reg_quiet rfl (step_C tab_ok (fun K hk => hk)) ?_
        refine reg_new (step_C tab_ok (fun K hk => hk)) rfl ?_
        refine reg_store (store_row tab_ok rfl rfl rfl ⟨_, ⟨rfl, rfl, rfl⟩, rfl⟩ rfl) ?_
        refine reg_quiet rfl (step_C tab_ok (fun K hk => hk)) ?_
        refine reg_quiet rfl (step_C tab_ok (fun K hk => hk)) ?_
        refine reg_nil ?_
        refine seq_n ?_
        refine wc_seq ?_
        refine wc_seq ?_
        refine wc_region ?_
        refine reg_quiet rfl (step_C tab_ok (fun K hk => hk)) ?_
        refine reg_quiet rfl (step_C tab_ok (fun K hk => hk)) ?_
        refine reg_nil ?_
        refine seq_n ?_
        refine wc_false rfl rfl ?_
        refine wc_skip ?_
        refine seq_n ?_
        refine wc_seq ?_
        refine wc_seq ?_
        refine wc_region ?_
        refine reg_quiet rfl (step_C tab_ok (fun K hk => hk)) ?_
        refine reg_quiet rfl (load_box tab_ok rfl rfl ⟨_, rfl, rfl⟩ rfl) ?_
        refine reg_quiet rfl (len_arx tab_ok rfl rfl) ?_
        refine reg_quiet rfl (step_C tab_ok (fun K hk => hk)) ?_
        refine reg_quiet rfl (step_C tab_ok (fun K hk => hk)) ?_
        refine reg_on rfl rfl rfl ?_
        refine reg_quiet rfl (step_C tab_ok (fun K hk => hk)) ?_
        refine reg_on rfl rfl rfl ?_
        refine reg_quiet rfl (step_C tab_ok (fun K hk => hk)) ?_
        refine reg_quiet rfl (pick_F tab_ok rfl rfl rfl) ?_
        refine reg_quiet rfl (step_C tab_ok (fun K hk => hk)) ?_
        refine reg_on rfl rfl rfl ?_
        refine reg_quiet rfl (step_C tab_ok (fun K hk => hk)) ?_
        refine reg_on rfl rfl rfl ?_
        refine reg_quiet rfl (sub_int (m := ((m.length : Nat) : Int)) tab_ok rfl rfl w54) ?_
        refine reg_on rfl rfl rfl ?_
        refine reg_quiet rfl (mul_int (m := ((m.length * 73 : Nat) : Int)) tab_ok rfl rfl w55) ?_
        refine reg_on rfl rfl rfl ?_
        refine reg_quiet rfl (step_C tab_ok (fun K hk => hk)) ?_
        refine reg_on rfl rfl rfl ?_
        refine reg_quiet rfl (len_s tab_ok rfl rfl) ?_
        refine reg_on rfl rfl rfl ?_
        refine reg_quiet rfl (step_C tab_ok (fun K hk => hk)) ?_
        refine reg_quiet rfl (pick_F tab_ok rfl rfl rfl) ?_
        refine reg_nil ?_
        refine seq_n ?_
        refine wc_false rfl (by assumption) ?_
        refine wc_skip ?_
        refine seq_n ?_
        refine wc_seq ?_
        refine wc_region ?_
        refine reg_quiet rfl (step_C tab_ok (fun K hk => hk)) ?_
        refine reg_quiet rfl (sub_int (m := ((m.length : Nat) : Int)) tab_ok rfl rfl w54) ?_
        refine reg_quiet rfl (mul_int (m := ((m.length * 73 : Nat) : Int)) tab_ok rfl rfl w55) ?_
        refine reg_quiet rfl (step_C tab_ok (fun K hk => hk)) ?_
        refine reg_nil ?_
        refine seq_n ?_
        refine wc_seq ?_
        refine wc_region ?_
        refine reg_quiet rfl (step_C tab_ok (fun K hk => hk)) ?_
        refine reg_quiet rfl (step_C tab_ok (fun K hk => hk)) ?_
        refine reg_quiet rfl (str_to (hi := m.length * 73) (m := textL m) tab_ok rfl rfl rfl hle ht1) ?_
        refine reg_quiet rfl (call_r hP2 rfl rfl (arg_e arg_nil) (.inl rfl) (fun _ => rfl)) ?_
        refine reg_quiet rfl (step_C tab_ok (fun K hk => hk)) ?_
        refine reg_quiet rfl (step_C tab_ok (fun K hk => hk)) ?_
        refine reg_quiet rfl (step_C tab_ok (fun K hk => hk)) ?_
        refine reg_quiet rfl (step_C tab_ok (fun K hk => hk)) ?_
        refine reg_new (step_C tab_ok (fun K hk => hk)) rfl ?_
        refine reg_store (store_row tab_ok rfl rfl rfl ⟨_, ⟨rfl, rfl, rfl⟩, rfl⟩ rfl) ?_
        refine reg_quiet rfl (step_C tab_ok (fun K hk => hk)) ?_
        refine reg_quiet rfl (step_C tab_ok (fun K hk => hk)) ?_
        refine reg_nil ?_
        refine seq_n ?_
        refine wc_seq ?_
        refine wc_seq ?_
        refine wc_region ?_
        refine reg_quiet rfl (step_C tab_ok (fun K hk => hk)) ?_
        refine reg_quiet rfl (step_C tab_ok (fun K hk => hk)) ?_
        refine reg_quiet rfl (step_C tab_ok (fun K hk => hk)) ?_
        refine reg_on rfl rfl rfl ?_
        refine reg_quiet rfl (step_C tab_ok (fun K hk => hk)) ?_
        refine reg_on rfl rfl rfl ?_
        refine reg_quiet rfl (step_C tab_ok (fun K hk => hk)) ?_
        refine reg_quiet rfl (pick_F tab_ok rfl rfl rfl) ?_
        refine reg_quiet rfl (step_C tab_ok (fun K hk => hk)) ?_
        refine reg_on rfl rfl rfl ?_
        refine reg_quiet rfl (step_C tab_ok (fun K hk => hk)) ?_
        refine reg_on rfl rfl rfl ?_
        refine reg_quiet rfl (load_box tab_ok rfl rfl ⟨_, rfl, rfl⟩ rfl) ?_
        refine reg_on rfl rfl rfl ?_
        refine reg_quiet rfl (len_arx tab_ok rfl rfl) ?_
        refine reg_on rfl rfl rfl ?_
        refine reg_quiet rfl (step_C tab_ok (fun K hk => hk)) ?_
        refine reg_on rfl rfl rfl ?_
        refine reg_quiet rfl (sub_int (m := ((m.length : Nat) : Int)) tab_ok rfl rfl w54) ?_
        refine reg_on rfl rfl rfl ?_
        refine reg_quiet rfl (step_C tab_ok (fun K hk => hk)) ?_
        refine reg_quiet rfl (pick_F tab_ok rfl rfl rfl) ?_
        refine reg_nil ?_
        refine seq_n ?_
        refine wc_false rfl (by assumption) ?_
        refine wc_skip ?_
        refine seq_n ?_
        refine wc_seq ?_
        refine wc_region ?_
        refine reg_quiet rfl (step_C tab_ok (fun K hk => hk)) ?_
        refine reg_quiet rfl (step_C tab_ok (fun K hk => hk)) ?_
        refine reg_quiet rfl (str_from (lo := m.length * 73) (m := post) tab_ok rfl rfl rfl hle hd1) ?_
        refine reg_quiet rfl (step_C tab_ok (fun K hk => hk)) ?_
        refine reg_nil ?_
        refine seq_n ?_
        refine wc_seq ?_
        refine wc_seq ?_
        refine wc_region ?_
        refine reg_quiet rfl (step_C tab_ok (fun K hk => hk)) ?_
        refine reg_quiet rfl (step_C tab_ok (fun K hk => hk)) ?_
        refine reg_nil ?_
        refine seq_n ?_
        refine wc_false rfl rfl ?_
        refine wc_skip ?_
        refine seq_n ?_
        refine wc_seq ?_
        refine wc_region ?_
        refine reg_quiet rfl (step_C tab_ok (fun K hk => hk)) ?_
        refine reg_quiet rfl (step_C tab_ok (fun K hk => hk)) ?_
        refine reg_quiet rfl (step_C tab_ok (fun K hk => hk)) ?_
        refine reg_on rfl rfl rfl ?_
        refine reg_quiet rfl (step_C tab_ok (fun K hk => hk)) ?_
        refine reg_on rfl rfl rfl ?_
        refine reg_quiet rfl (len_s tab_ok rfl rfl) ?_
        refine reg_on rfl rfl rfl ?_
        refine reg_quiet rfl (step_C tab_ok (fun K hk => hk)) ?_
        refine reg_on rfl rfl rfl ?_
        refine reg_quiet rfl (step_C tab_ok (fun K hk => hk)) ?_
        refine reg_on rfl rfl (by assumption) ?_
        refine reg_quiet rfl (step_C tab_ok (fun K hk => hk)) ?_
        refine reg_on rfl rfl (by assumption) ?_
        refine reg_quiet rfl (str_to (hi := 72) (m := post.take 72) tab_ok rfl rfl rfl h72 rfl) ?_
        refine reg_on rfl rfl (by assumption) ?_
        refine reg_quiet rfl (call_r hD rfl rfl (arg_e arg_nil) (.inl rfl) (fun _ => rfl)) ?_
        refine reg_on rfl rfl (by assumption) ?_
        refine reg_quiet rfl (step_C tab_ok (fun K hk => hk)) ?_
        refine reg_on rfl rfl rfl ?_
        refine reg_quiet rfl (pick_F tab_ok rfl (by assumption) rfl) ?_
        refine reg_on rfl rfl rfl ?_
        refine reg_quiet rfl (step_C tab_ok (fun K hk => hk)) ?_
        refine reg_on rfl rfl rfl ?_
        refine reg_quiet rfl (step_C tab_ok (fun K hk => hk)) ?_
        refine reg_on rfl rfl rfl ?_
        refine reg_quiet rfl (index_s (m := 72) tab_ok rfl rfl rfl hc) ?_
        refine reg_on rfl rfl rfl ?_
        refine reg_quiet rfl (step_C tab_ok (fun K hk => hk)) ?_
        refine reg_on rfl rfl rfl ?_
        refine reg_quiet rfl (pick_F tab_ok rfl rfl rfl) ?_
        refine reg_quiet rfl (pick_T tab_ok rfl rfl rfl) ?_
        refine reg_quiet rfl (step_C tab_ok (fun K hk => hk)) ?_
        refine reg_on rfl rfl (by assumption) ?_
        refine reg_quiet rfl (call_r lives_is rfl rfl arg_nil (.inl rfl) (fun _ => rfl)) ?_
        refine reg_quiet rfl (pick_T tab_ok rfl (by assumption) rfl) ?_
        refine reg_quiet rfl (step_C tab_ok (fun K hk => hk)) ?_
        refine reg_nil ?_
        refine seq_n ?_
        refine wc_ret ?_
        exact ⟨trivial, [], .of rfl rfl rfl rfl rfl ⟨⟨_, rfl, AVLe.of_eq rfl⟩, rfl, trivial⟩ trivial⟩
theorem lparse_is (s : List UInt8) : FnIs Try.prog 9 [.d (strD s)] [] (.bool true) [] := by
  by_cases h : 400 < s.length
  · exact lparse_long s h
  obtain ⟨m, post, rfl, hv, hp⟩ := parse_out s.length s (Nat.le_refl _)
  rcases hp with rfl | ⟨hne, hs⟩
  · rw [List.append_nil] at h ⊢
    exact lparse_ok m hv (by omega)
  · have hpos : 0 < post.length := List.length_pos_iff.2 hne
    rcases hs with hc | ⟨t, r, hc, hg | ⟨hg, hvb⟩⟩
    · exact lparse_bad m post 5 hv (by omega) hpos (parseF_none m hne hc) (.inr ⟨rfl, stop_form (.inl hc)⟩)
    · refine lparse_bad m post 5 hv (by omega) hpos ?_ (.inr ⟨rfl, stop_form (.inr ⟨t, r, hc, hg⟩)⟩)
      rw [parseF_some m hne hc, if_pos hg]
    · refine lparse_bad m post 1 hv (by omega) hpos ?_ (.inl ⟨rfl, t, r, (cutL_some hc).2, hg, hvb⟩)
      rw [parseF_some m hne hc, if_neg (by rw [hg]; simp), if_pos hvb]
theorem lparse_str (x : ByteArray) : FnIs Try.prog 9 [.d (.sc (.string x))] [] (.bool true) [] := by
  have := lparse_is x.data.toList
  rwa [show strD x.data.toList = .sc (.string x) by rw [strD, mkS_of]] at this
end Go.Proofs.Ytjpjchohpjbknaa

/- Engine: s[:0:0] of the nil slice; results that are tuples, given up. -/
namespace Go.Eng
open Go.RowKit
section
variable {P : Program} {T : Tab} {n : Nat} {env : Env} {h : Upds}
theorem slice_n00 (hT : TabOk P T) {t e : Nat} {re : TyR} {x i j : Operand} {k k' : IntKind} (ht : tdesc T t = some (.slice e)) (he : lk T e = some re)
    (hx : evalA env x = some (.d (.sc (.slice none 0 0)))) (hi : evalA env i = some (.int k 0)) (hj : evalA env j = some (.int k' 0)) : StepIs P (.slice t x none (some i) (some j)) env h n (some (.d (.sc (.slice none 0 0)))) [] := .of_comes fun C G st σ w a o ho hA hdst hst hn => by
  obtain ⟨ud, hud, hdd⟩ := tdesc_und hT ht
  cases hdd
  obtain ⟨hv, _⟩ := RelV.sc.1 (ev_sound hst (hA.ev hx)).1
  obtain ⟨hi1, _⟩ := RelV.sc.1 (ev_sound hst (hA.ev hi)).1
  obtain ⟨hj1, _⟩ := RelV.sc.1 (ev_sound hst (hA.ev hj)).1
  have hsz := (hT e re he).run_size (P := P)
  refine .quiet (u := .slice none 0 0) hst hdst ⟨rfl, rfl⟩ ?_ (RelV.sc.2 ⟨rfl, rfl⟩) trivial
  simp [execOp, ho, Instr.sliceAt, Instr.slice, hv, hi1, hj1, run_underlying hud, Instr.sliceBounds, Instr.sliceBound, asIntOf, hsz, Sem.run_bind, Sem.run_pure, Result.andThen_ok]
end
/-- As `Frz`, for the values of a chain. -/
def FrzT (r : Nat) (row : Row) (a a' : AV) : Prop :=
  (∀ G : Nat → Prop, a.within G → a'.within G) ∧
    ∀ (σ : Place) (w : World) (X X' : Nat → Prop), (∀ b, X' b → X b) → (∀ b c, σ r = some (b, c) → ¬ X' b) → RowRel σ w X r row → ∀ cs, Rel σ w X a true cs → Rel σ w X' a' true cs
theorem FrzT.nil {r : Nat} {row : Row} : FrzT r row .anil .anil := ⟨fun _ h => h, fun _ _ _ _ _ _ _ _ h => h⟩
theorem FrzT.cons {r : Nat} {row : Row} {a b x y : AV} (h1 : Frz r row a x) (h2 : FrzT r row b y) : FrzT r row (.acons a b) (.acons x y) := by
  refine ⟨fun G g => ⟨h1.2.2.1 G g.1, h2.1 G g.2⟩, fun σ w X X' hx hn hr cs h => ?_⟩
  obtain ⟨v, us, rfl, g1, g2⟩ := h
  refine ⟨v, us, rfl, ?_, h2.2 σ w X X' hx hn hr _ g2⟩
  split at g1 <;> rename_i hag
  · obtain ⟨c, rfl, hc⟩ := g1
    rw [if_pos (by rw [h1.1]; exact hag)]
    exact ⟨c, rfl, h1.2.2.2 σ w X X' hx hn hr _ hc⟩
  · rw [if_neg (by rw [h1.1]; exact hag)]
    exact h1.2.2.2 σ w X X' hx hn hr _ g1
theorem Frz.tup {r : Nat} {row : Row} {q q' : AV} (h : FrzT r row q q') : Frz r row (.tup q) (.tup q') := by
  refine ⟨rfl, fun e => (by cases e), fun G g => h.1 G g, fun σ w X X' hx hn hr cs hh => ?_⟩
  obtain ⟨vs, rfl, h1⟩ := hh
  exact ⟨vs, rfl, h.2 σ w X X' hx hn hr _ h1⟩
end Go.Eng

/- Engine: nothing appended to an empty slice. -/
namespace Go.Eng
open Go.RowKit
section
variable {P : Program} {T : Tab} {n : Nat} {env : Env} {h : Upds}
theorem append_e_n (hT : TabOk P T) {t e : Nat} {re : TyR} {x y : Operand} {α : Type} {s' : Nat} {enc : α → D} (ht : tdesc T t = some (.slice e)) (he : lk T e = some re)
    (hx : evalA env x = some .empty) (hy : evalA env y = some (.d (.arr s' enc ([] : List α)))) :
    StepIs P (.call { callee := .builtin .append, args := #[x, y], argTypes := #[t, t] }) env h n (some .empty) [] := .of_comes fun C G st σ w ac o ho hA hd hst hn => by
  obtain ⟨ud, hud, hdd⟩ := tdesc_und hT ht
  cases hdd
  obtain ⟨hx1, _⟩ := ev_sound hst (hA.ev hx)
  obtain ⟨hy1, _⟩ := ev_sound hst (hA.ev hy)
  have hsz := (hT e re he).run_size (P := P)
  have hv : ∃ b, ac.eval x = .slice b 0 0 := by
    unfold RelV at hx1
    rw [if_neg (by simp [AV.isAgg])] at hx1
    obtain ⟨ad, hv⟩ := hx1
    exact ⟨ad, by simpa using hv⟩
  obtain ⟨b, hv⟩ := hv
  have hu : ∃ ad c, ac.eval y = .slice ad 0 c := by
    rcases RelV.arr.1 hy1 with ⟨_, hv⟩ | ⟨ad, c, hv, _⟩
    · exact ⟨none, 0, hv⟩
    · exact ⟨some ad, c, by simpa using hv⟩
  obtain ⟨ad, c, hu⟩ := hu
  have h0 : ∀ a, (loadCells a 0).run P w = .ok #[] w := fun a => by simpa using run_loadCells_list (P := P) w a [] (by simp)
  refine .quiet (u := .slice b 0 0) hst hd ⟨rfl, rfl⟩ ?_ (by unfold RelV; rw [if_neg (by simp [AV.isAgg])]; exact ⟨b, rfl⟩) trivial
  cases b <;> cases ad <;> simp [execOp, ho, resolve, invoke, builtin, Builtin.append_, hv, hu, run_underlying hud, hsz, Builtin.lenOf, Builtin.firstCells, h0, storeCells, Sem.run_bind, Sem.run_pure, Result.andThen_ok]
theorem append_e_one (hT : TabOk P T) {t e r2 : Nat} {re : TyR} {s : Nat} {ex2 : Bool} {cap2 : Option Nat} {α : Type} {enc : α → D} {x y : Operand} {d : D} (el : α) (ht : tdesc T t = some (.slice e)) (he : lk T e = some re) (hs : Nat.beq re.size s = true)
    (hx : evalA env x = some .empty) (hy : evalA env y = some (.own r2 0 1 s cap2)) (hrow2 : lookH h r2 = some (.lits e s 1 ex2 (.acons (.d d) .anil))) (hd : d = enc el) (hbytes : Nat.ble re.bytes 134217728 = true) :
    StepIs P (.call { callee := .builtin .append, args := #[x, y], argTypes := #[t, t] }) env h n (some (.own n 0 1 s none)) [(n, some (.ds e s false enc [el]))] := by
  have hb := Nat.le_of_ble_eq_true hbytes
  refine append_empty (ys := [el]) hT ht he (Nat.eq_of_beq_eq_true hs) hx (.inl rfl) (by simp) (by simp [maxLen]) (by simp; omega) ?_
  intro C G st σ w a hA hst
  obtain ⟨hy1, _⟩ := ev_sound hst (hA.ev hy)
  have hr2 := hst.rows r2 _ (hA.row _ _ hrow2)
  rcases RelV.own.1 hy1 with ⟨_, _, h0, _⟩ | ⟨b, c, ad, hb, hv, hle, _, _, had⟩
  · omega
  · have : ad = ⟨b, 0, none⟩ := by have := had (by omega); simpa using this
    subst this
    rcases hr2 with ⟨_, ⟨hn, _⟩ | ⟨b', c', cur, cs, hb', _, hh, hcs, _, _, hcl, hrel, htk⟩⟩
    · rw [hb] at hn; cases hn
    · rw [hb] at hb'
      cases hb'
      obtain ⟨c1, c2, rfl, h1, h2⟩ := hrel
      obtain rfl : c2 = [] := h2
      rw [List.append_nil] at hcl htk
      have h1 : Enc w (st.X C.X0 σ) d c1 := h1
      refine ⟨⟨b, 0, none⟩, _, fun _ => c1, hv, fun i hi => ?_, fun j u hj => ?_⟩
      · have : i = 0 := by simp at hi; exact hi
        subst this
        exact ⟨by simpa [← hd] using h1, by simpa using hcl⟩
      · simp only [List.length_cons, List.length_nil, cat, List.nil_append] at hj
        have hjl := (List.getElem?_eq_some_iff.1 hj).1
        rw [add_mk, cell_of_row w b _ cur e (0, 0) hh, Nat.zero_add, ← Array.getElem?_toList]
        rw [← htk, List.getElem?_take, if_pos (by omega)] at hj
        exact hj

end
end Go.Eng

/- Ledgers: joined and Merge, with results as data. -/
namespace Go.Proofs.Ytjpjchohpjbknaa
open Go.Eng
set_option maxHeartbeats 4000000
attribute [local irreducible] WC RegS RegD SeqQ BlkQ ScoQ RegK CutK Sat SatN FnIs LoopQ StepIs OpIs
abbrev ledX (l : List LUse) : D := .cons (.arx 20 encUse l) .nil
abbrev ledR (l : List LUse) (e : Int) : AV := .tup (.acons (.d (ledX l)) (.acons (.d (i6 e)) .anil))
theorem zero_ledX {r : AV} : AVLe (.tup (.acons (.d zeroLed) r)) (.tup (.acons (.d (ledX [])) r)) := zero_led_le
theorem clipu_zero : FnIs Try.prog 69 [.d (.sc nil_)] [] (.d (.sc nil_)) [] := by
  refine fnIs_of tab_ok Try.func69 rfl rfl rfl ?_
  refine wc_seq ?_
  refine wc_region ?_
  refine reg_quiet rfl (step_C tab_ok (fun K hk => hk)) ?_
  refine reg_nil ?_
  refine seq_n ?_
  refine wc_seq ?_
  refine wc_region ?_
  refine reg_quiet rfl (step_C tab_ok (fun K hk => hk)) ?_
  refine reg_quiet rfl (step_C tab_ok (fun K hk => hk)) ?_
  refine reg_quiet rfl (len_nil tab_ok rfl rfl) ?_
  refine reg_quiet rfl (step_C tab_ok (fun K hk => hk)) ?_
  refine reg_quiet rfl (len_nil tab_ok rfl rfl) ?_
  refine reg_quiet rfl (slice_n00 tab_ok rfl rfl rfl rfl rfl) ?_
  refine reg_quiet rfl (step_C tab_ok (fun K hk => hk)) ?_
  refine reg_nil ?_
  refine seq_n ?_
  refine wc_ret ?_
  exact ⟨trivial, [], .of rfl rfl rfl rfl rfl ⟨⟨_, rfl, AVLe.of_eq rfl⟩, rfl, trivial⟩ trivial⟩
theorem joined_zero : FnIs Try.prog 70 [.d (encLed []), .d (.arr 20 encUse [])] [] (ledR [] 0) [] := by
  refine fnIs_of tab_ok Try.func70 rfl rfl rfl ?_
  refine wc_seq ?_
  refine wc_region ?_
  refine reg_new (step_C tab_ok (fun K hk => hk)) rfl ?_
  refine reg_new (step_C tab_ok (fun K hk => hk)) rfl ?_
  refine reg_quiet rfl (step_C tab_ok (fun K hk => hk)) ?_
  refine reg_nil ?_
  refine seq_n ?_
  refine wc_seq ?_
  refine wc_seq ?_
  refine wc_region ?_
  refine reg_quiet rfl (step_C tab_ok (fun K hk => hk)) ?_
  refine reg_quiet rfl (load_box tab_ok rfl rfl ⟨_, rfl, rfl⟩ rfl) ?_
  refine reg_quiet rfl (len_arr tab_ok rfl rfl) ?_
  refine reg_quiet rfl (step_C tab_ok (fun K hk => hk)) ?_
  refine reg_quiet rfl (len_arr tab_ok rfl rfl) ?_
  refine reg_quiet rfl (add_int (m := 0) tab_ok rfl rfl rfl) ?_
  refine reg_quiet rfl (step_C tab_ok (fun K hk => hk)) ?_
  refine reg_nil ?_
  refine seq_n ?_
  refine wc_false rfl rfl ?_
  refine wc_skip ?_
  refine seq_n ?_
  refine wc_seq ?_
  refine wc_region ?_
  refine reg_quiet rfl (step_C tab_ok (fun K hk => hk)) ?_
  refine reg_quiet rfl (load_box tab_ok rfl rfl ⟨_, rfl, rfl⟩ rfl) ?_
  refine reg_quiet rfl (step_C tab_ok (fun K hk => hk)) ?_
  refine reg_new (build_slice (s := 1) tab_ok rfl rfl rfl rfl rfl rfl rfl rfl) rfl ?_
  refine reg_freeze (env' := [(17, _), (4, _)]) (h' := [(72, some _)]) 168 _ rfl ⟨⟨_, rfl, Frz.lits2 (enc := encSl) List.nil List.nil rfl rfl rfl rfl⟩, ⟨_, rfl, .refl _⟩, trivial⟩ ⟨⟨rfl, _, rfl, .refl _⟩, trivial⟩ ?_
  refine reg_quiet rfl (call_r (concat_zero [[], []] rfl (by simp)) rfl rfl (arg_e arg_nil) (.inl rfl) (fun _ => rfl)) ?_
  refine reg_quiet rfl (call_r clipu_zero rfl rfl (arg_e arg_nil) (.inl rfl) (fun _ => rfl)) ?_
  refine reg_quiet rfl (build_struct tab_ok rfl rfl rfl rfl) ?_
  refine reg_store (store_row tab_ok rfl rfl rfl ⟨_, ⟨rfl, rfl, rfl⟩, rfl⟩ rfl) ?_
  refine reg_quiet rfl (step_C tab_ok (fun K hk => hk)) ?_
  refine reg_nil ?_
  refine seq_n ?_
  refine wc_ret ?_
  exact ⟨trivial, _, rfl, [], .of rfl rfl rfl rfl rfl ⟨⟨_, rfl, zero_ledX⟩, rfl, trivial⟩ trivial⟩
theorem joined_x (l m : List LUse) (hk : l.length + m.length ≤ 65536) : FnIs Try.prog 70 [.d (encLed l), .d (.arr 20 encUse m)] [] (ledR (l ++ m) 0) [] := by
  by_cases hj : 0 < l.length + m.length
  · exact (joined_is l m hj hk).freeze_out 64 _ rfl (Frz.tup (FrzT.cons (Frz.dcons (Frz.ownx rfl rfl) (Frz.refl _)) (FrzT.cons (Frz.refl _) FrzT.nil))) trivial
  · have h1 : l = [] := List.length_eq_zero_iff.1 (by omega)
    have h2 : m = [] := List.length_eq_zero_iff.1 (by omega)
    subst h1 h2
    exact joined_zero
theorem add_x (l : List LUse) (u : LUse) (h0 : chkL l = 0) (hv : validU u = true) (hk : l.length + 1 ≤ 65536) : FnIs Try.prog 50 [.d (encLed l), .d (encUse u)] [] (ledR (l ++ [u]) 0) [] :=
  (add_is l u h0 hv hk).freeze_out 64 _ rfl (Frz.tup (FrzT.cons (Frz.dcons (Frz.ownx rfl rfl) (Frz.refl _)) (FrzT.cons (Frz.refl _) FrzT.nil))) trivial
end Go.Proofs.Ytjpjchohpjbknaa

/- Ledgers: Merge. -/
namespace Go.Proofs.Ytjpjchohpjbknaa
open Go.Eng
set_option maxHeartbeats 4000000
attribute [local irreducible] WC RegS RegD SeqQ BlkQ ScoQ RegK CutK Sat SatN FnIs LoopQ StepIs OpIs
theorem lled_len (w : World) (X : Nat → Prop) (x : List LUse) (cs : List Value) (h : Enc w X (encLed x) cs) : cs.length = 1 := Enc.len _ _ h
/-- The error of the first of some ledgers that has one. -/
def chkF : List (List LUse) → Int
  | [] => 0
  | x :: xs => if chkL x = 0 then chkF xs else chkL x
theorem merge_x (l m : List LUse) (h1 : chkL l = 0) (h2 : chkL m = 0) (hk : l.length + m.length ≤ 65536) : FnIs Try.prog 45 [.d (encLed l), .d (encLed m)] [] (ledR (l ++ m) 0) [] := by
  refine fnIs_of tab_ok Try.func45 rfl rfl rfl ?_
  refine wc_seq ?_
  refine wc_region ?_
  refine reg_new (step_C tab_ok (fun K hk => hk)) rfl ?_
  refine reg_new (step_C tab_ok (fun K hk => hk)) rfl ?_
  refine reg_new (step_C tab_ok (fun K hk => hk)) rfl ?_
  refine reg_quiet rfl (step_C tab_ok (fun K hk => hk)) ?_
  refine reg_nil ?_
  refine seq_n ?_
  refine wc_seq ?_
  refine wc_seq ?_
  refine wc_region ?_
  refine reg_quiet rfl (load_box tab_ok rfl rfl rfl rfl) ?_
  refine reg_quiet rfl (load_box tab_ok rfl rfl rfl rfl) ?_
  refine reg_quiet rfl ((build_arr_of tab_ok rfl rfl rfl rfl rfl rfl rfl).val_le (DLe.chain_vec (enc := encLed) lled_len [l, m] _ rfl) rfl) ?_
  refine reg_quiet rfl (step_C tab_ok (fun K hk => hk)) ?_
  refine reg_nil ?_
  refine seq_n ?_
  refine wc_block ?_
  refine wc_inv (fun i : Nat => ⟨[(12, .int .i64 i), (11, .d (.vec 2 1 encLed [l, m])), (2, .ptr 64 []), (3, .ptr 72 []), (4, .ptr 80 []), (5, .d (i6 0))], [(64, some (.box 88 (.d (encLed l)))), (72, some (.box 88 (.d (encLed m)))), (80, some (.box 88 (.d zeroLed)))], 96, Try.f45.ntmps, 64⟩) (fun i => i ≤ 2) (fun i => 2 - i) 0 [(64, some 64), (72, some 72), (80, some 80)] (Nat.zero_le _)
    (.of rfl rfl rfl rfl rfl ⟨⟨_, rfl, .refl _⟩, rfl, ⟨_, rfl, .refl _⟩, rfl, ⟨_, rfl, .refl _⟩, rfl, ⟨_, rfl, .refl _⟩, rfl, ⟨_, rfl, .refl _⟩, rfl, ⟨_, rfl, .refl _⟩, rfl, trivial⟩ ⟨⟨rfl, rfl, _, rfl, .refl _⟩, ⟨rfl, rfl, _, rfl, .refl _⟩, ⟨rfl, rfl, _, rfl, .refl _⟩, trivial⟩) ?_
  intro i hi
  refine wc_of ?_
  refine wc_seq ?_
  refine wc_region ?_
  refine reg_quiet rfl (step_C tab_ok (fun K hk => hk)) ?_
  refine reg_nil ?_
  refine seq_n ?_
  refine wc_seq ?_
  refine wc_cond rfl (fun h3 => ?_) (fun h3 => ?_)
  · have hlt : i < 2 := by have := of_decide_eq_true h3; omega
    obtain ⟨x, hx, hx0⟩ : ∃ x, [l, m][((i : Int)).toNat]? = some x ∧ chkL x = 0 := by
      rw [Int.toNat_natCast]
      match i, hlt with
      | 0, _ => exact ⟨l, rfl, h1⟩
      | 1, _ => exact ⟨m, rfl, h2⟩
    have hC := ledcheck_is x
    rw [hx0] at hC
    refine wc_skip ?_
    refine seq_n ?_
    refine wc_seq ?_
    refine wc_block ?_
    refine wc_seq ?_
    refine wc_region ?_
    refine reg_quiet rfl (index_vec (z := encLed x) tab_ok rfl rfl rfl rfl rfl (by omega) (by omega) ⟨rfl, _, hx, rfl⟩ rfl) ?_
    refine reg_new (step_C tab_ok (fun K hk => hk)) rfl ?_
    refine reg_store (store_row tab_ok rfl rfl rfl ⟨_, ⟨rfl, rfl, rfl⟩, rfl⟩ rfl) ?_
    refine reg_nil ?_
    refine seq_n ?_
    refine wc_seq ?_
    refine wc_region ?_
    refine reg_quiet rfl (load_box tab_ok rfl rfl rfl rfl) ?_
    refine reg_quiet rfl (call_r hC rfl rfl (arg_e arg_nil) (.inl rfl) (fun _ => rfl)) ?_
    refine reg_quiet rfl (step_C tab_ok (fun K hk => hk)) ?_
    refine reg_nil ?_
    refine seq_n ?_
    refine wc_seq ?_
    refine wc_region ?_
    refine reg_quiet rfl (step_C tab_ok (fun K hk => hk)) ?_
    refine reg_quiet rfl (step_C tab_ok (fun K hk => hk)) ?_
    refine reg_nil ?_
    refine seq_n ?_
    refine wc_false rfl rfl ?_
    refine wc_skip ?_
    refine blk_n ?_
    refine seq_n ?_
    refine wc_region ?_
    refine reg_quiet rfl (add_int tab_ok rfl rfl (wrap_i64 (by omega) (by omega))) ?_
    refine reg_quiet rfl (step_C tab_ok (fun K hk => hk)) ?_
    refine reg_nil ?_
    refine loop_n (i + 1) [(64, some 64), (72, some 72), (80, some 80)] hlt (by omega) ?_
    exact (.of rfl rfl rfl rfl rfl ⟨⟨_, rfl, .refl _⟩, rfl, ⟨_, rfl, .refl _⟩, rfl, ⟨_, rfl, .refl _⟩, rfl, ⟨_, rfl, .refl _⟩, rfl, ⟨_, rfl, .refl _⟩, rfl, ⟨_, rfl, .refl _⟩, rfl, trivial⟩ ⟨⟨rfl, rfl, _, rfl, .refl _⟩, ⟨rfl, rfl, _, rfl, .refl _⟩, ⟨rfl, rfl, _, rfl, .refl _⟩, trivial⟩)
  · refine wc_exit ?_
    refine seq_x ?_
    refine loop_x ?_
    refine blk_x ?_
    refine seq_n ?_
    refine wc_seq ?_
    refine wc_region ?_
    refine reg_quiet rfl (load_box tab_ok rfl rfl rfl rfl) ?_
    refine reg_quiet rfl (step_C tab_ok (fun K hk => hk)) ?_
    refine reg_quiet rfl (load_box tab_ok rfl rfl ⟨_, rfl, rfl⟩ rfl) ?_
    refine reg_quiet rfl (call_r (joined_x l m hk) rfl rfl (arg_e (arg_e arg_nil)) (.inl rfl) (fun _ => rfl)) ?_
    refine reg_quiet rfl (step_C tab_ok (fun K hk => hk)) ?_
    refine reg_quiet rfl (step_C tab_ok (fun K hk => hk)) ?_
    refine reg_store (store_row tab_ok rfl rfl rfl ⟨_, ⟨rfl, rfl, rfl⟩, rfl⟩ rfl) ?_
    refine reg_quiet rfl (step_C tab_ok (fun K hk => hk)) ?_
    refine reg_nil ?_
    refine seq_n ?_
    refine wc_ret ?_
    exact ⟨trivial, _, rfl, [], .of rfl rfl rfl rfl rfl ⟨⟨_, rfl, AVLe.of_eq rfl⟩, rfl, trivial⟩ trivial⟩
theorem merge_many (l m : List LUse) (h1 : chkL l = 0) (h2 : chkL m = 0) (hl : l.length ≤ 1000000) (hm : m.length ≤ 1000000) (hk : 65536 < l.length + m.length) : FnIs Try.prog 45 [.d (encLed l), .d (encLed m)] [] (ledR [] 3) [] := by
  refine fnIs_of tab_ok Try.func45 rfl rfl rfl ?_
  refine wc_seq ?_
  refine wc_region ?_
  refine reg_new (step_C tab_ok (fun K hk => hk)) rfl ?_
  refine reg_new (step_C tab_ok (fun K hk => hk)) rfl ?_
  refine reg_new (step_C tab_ok (fun K hk => hk)) rfl ?_
  refine reg_quiet rfl (step_C tab_ok (fun K hk => hk)) ?_
  refine reg_nil ?_
  refine seq_n ?_
  refine wc_seq ?_
  refine wc_seq ?_
  refine wc_region ?_
  refine reg_quiet rfl (load_box tab_ok rfl rfl rfl rfl) ?_
  refine reg_quiet rfl (load_box tab_ok rfl rfl rfl rfl) ?_
  refine reg_quiet rfl ((build_arr_of tab_ok rfl rfl rfl rfl rfl rfl rfl).val_le (DLe.chain_vec (enc := encLed) lled_len [l, m] _ rfl) rfl) ?_
  refine reg_quiet rfl (step_C tab_ok (fun K hk => hk)) ?_
  refine reg_nil ?_
  refine seq_n ?_
  refine wc_block ?_
  refine wc_inv (fun i : Nat => ⟨[(12, .int .i64 i), (11, .d (.vec 2 1 encLed [l, m])), (2, .ptr 64 []), (3, .ptr 72 []), (4, .ptr 80 []), (5, .d (i6 0))], [(64, some (.box 88 (.d (encLed l)))), (72, some (.box 88 (.d (encLed m)))), (80, some (.box 88 (.d zeroLed)))], 96, Try.f45.ntmps, 64⟩) (fun i => i ≤ 2) (fun i => 2 - i) 0 [(64, some 64), (72, some 72), (80, some 80)] (Nat.zero_le _)
    (.of rfl rfl rfl rfl rfl ⟨⟨_, rfl, .refl _⟩, rfl, ⟨_, rfl, .refl _⟩, rfl, ⟨_, rfl, .refl _⟩, rfl, ⟨_, rfl, .refl _⟩, rfl, ⟨_, rfl, .refl _⟩, rfl, ⟨_, rfl, .refl _⟩, rfl, trivial⟩ ⟨⟨rfl, rfl, _, rfl, .refl _⟩, ⟨rfl, rfl, _, rfl, .refl _⟩, ⟨rfl, rfl, _, rfl, .refl _⟩, trivial⟩) ?_
  intro i hi
  refine wc_of ?_
  refine wc_seq ?_
  refine wc_region ?_
  refine reg_quiet rfl (step_C tab_ok (fun K hk => hk)) ?_
  refine reg_nil ?_
  refine seq_n ?_
  refine wc_seq ?_
  refine wc_cond rfl (fun h3 => ?_) (fun h3 => ?_)
  · have hlt : i < 2 := by have := of_decide_eq_true h3; omega
    obtain ⟨x, hx, hx0⟩ : ∃ x, [l, m][((i : Int)).toNat]? = some x ∧ chkL x = 0 := by
      rw [Int.toNat_natCast]
      match i, hlt with
      | 0, _ => exact ⟨l, rfl, h1⟩
      | 1, _ => exact ⟨m, rfl, h2⟩
    have hC := ledcheck_is x
    rw [hx0] at hC
    refine wc_skip ?_
    refine seq_n ?_
    refine wc_seq ?_
    refine wc_block ?_
    refine wc_seq ?_
    refine wc_region ?_
    refine reg_quiet rfl (index_vec (z := encLed x) tab_ok rfl rfl rfl rfl rfl (by omega) (by omega) ⟨rfl, _, hx, rfl⟩ rfl) ?_
    refine reg_new (step_C tab_ok (fun K hk => hk)) rfl ?_
    refine reg_store (store_row tab_ok rfl rfl rfl ⟨_, ⟨rfl, rfl, rfl⟩, rfl⟩ rfl) ?_
    refine reg_nil ?_
    refine seq_n ?_
    refine wc_seq ?_
    refine wc_region ?_
    refine reg_quiet rfl (load_box tab_ok rfl rfl rfl rfl) ?_
    refine reg_quiet rfl (call_r hC rfl rfl (arg_e arg_nil) (.inl rfl) (fun _ => rfl)) ?_
    refine reg_quiet rfl (step_C tab_ok (fun K hk => hk)) ?_
    refine reg_nil ?_
    refine seq_n ?_
    refine wc_seq ?_
    refine wc_region ?_
    refine reg_quiet rfl (step_C tab_ok (fun K hk => hk)) ?_
    refine reg_quiet rfl (step_C tab_ok (fun K hk => hk)) ?_
    refine reg_nil ?_
    refine seq_n ?_
    refine wc_false rfl rfl ?_
    refine wc_skip ?_
    refine blk_n ?_
    refine seq_n ?_
    refine wc_region ?_
    refine reg_quiet rfl (add_int tab_ok rfl rfl (wrap_i64 (by omega) (by omega))) ?_
    refine reg_quiet rfl (step_C tab_ok (fun K hk => hk)) ?_
    refine reg_nil ?_
    refine loop_n (i + 1) [(64, some 64), (72, some 72), (80, some 80)] hlt (by omega) ?_
    exact (.of rfl rfl rfl rfl rfl ⟨⟨_, rfl, .refl _⟩, rfl, ⟨_, rfl, .refl _⟩, rfl, ⟨_, rfl, .refl _⟩, rfl, ⟨_, rfl, .refl _⟩, rfl, ⟨_, rfl, .refl _⟩, rfl, ⟨_, rfl, .refl _⟩, rfl, trivial⟩ ⟨⟨rfl, rfl, _, rfl, .refl _⟩, ⟨rfl, rfl, _, rfl, .refl _⟩, ⟨rfl, rfl, _, rfl, .refl _⟩, trivial⟩)
  · refine wc_exit ?_
    refine seq_x ?_
    refine loop_x ?_
    refine blk_x ?_
    refine seq_n ?_
    refine wc_seq ?_
    refine wc_region ?_
    refine reg_quiet rfl (load_box tab_ok rfl rfl rfl rfl) ?_
    refine reg_quiet rfl (step_C tab_ok (fun K hk => hk)) ?_
    refine reg_quiet rfl (load_box tab_ok rfl rfl ⟨_, rfl, rfl⟩ rfl) ?_
    refine reg_quiet rfl (call_r (joined_many l m hl hm hk) rfl rfl (arg_e (arg_e arg_nil)) (.inl rfl) (fun _ => rfl)) ?_
    refine reg_quiet rfl (step_C tab_ok (fun K hk => hk)) ?_
    refine reg_quiet rfl (step_C tab_ok (fun K hk => hk)) ?_
    refine reg_store (store_row tab_ok rfl rfl rfl ⟨_, ⟨rfl, rfl, rfl⟩, rfl⟩ rfl) ?_
    refine reg_quiet rfl (step_C tab_ok (fun K hk => hk)) ?_
    refine reg_nil ?_
    refine seq_n ?_
    refine wc_ret ?_
    exact ⟨trivial, _, rfl, [], .of rfl rfl rfl rfl rfl ⟨⟨_, rfl, zero_ledX⟩, rfl, trivial⟩ trivial⟩
theorem merge_err (l m : List LUse) (e : Int) (he : e ≠ 0) (h1 : chkL l = e ∨ chkL l = 0 ∧ chkL m = e) : FnIs Try.prog 45 [.d (encLed l), .d (encLed m)] [] (ledR [] e) [] := by
  refine fnIs_of tab_ok Try.func45 rfl rfl rfl ?_
  refine wc_seq ?_
  refine wc_region ?_
  refine reg_new (step_C tab_ok (fun K hk => hk)) rfl ?_
  refine reg_new (step_C tab_ok (fun K hk => hk)) rfl ?_
  refine reg_new (step_C tab_ok (fun K hk => hk)) rfl ?_
  refine reg_quiet rfl (step_C tab_ok (fun K hk => hk)) ?_
  refine reg_nil ?_
  refine seq_n ?_
  refine wc_seq ?_
  refine wc_seq ?_
  refine wc_region ?_
  refine reg_quiet rfl (load_box tab_ok rfl rfl rfl rfl) ?_
  refine reg_quiet rfl (load_box tab_ok rfl rfl rfl rfl) ?_
  refine reg_quiet rfl ((build_arr_of tab_ok rfl rfl rfl rfl rfl rfl rfl).val_le (DLe.chain_vec (enc := encLed) lled_len [l, m] _ rfl) rfl) ?_
  refine reg_quiet rfl (step_C tab_ok (fun K hk => hk)) ?_
  refine reg_nil ?_
  refine seq_n ?_
  refine wc_block ?_
  refine wc_inv (fun i : Nat => ⟨[(12, .int .i64 i), (11, .d (.vec 2 1 encLed [l, m])), (2, .ptr 64 []), (3, .ptr 72 []), (4, .ptr 80 []), (5, .d (i6 0))], [(64, some (.box 88 (.d (encLed l)))), (72, some (.box 88 (.d (encLed m)))), (80, some (.box 88 (.d zeroLed)))], 96, Try.f45.ntmps, 64⟩) (fun i => i = 0 ∨ i = 1 ∧ chkL l = 0) (fun i => 2 - i) 0 [(64, some 64), (72, some 72), (80, some 80)] (.inl rfl)
    (.of rfl rfl rfl rfl rfl ⟨⟨_, rfl, .refl _⟩, rfl, ⟨_, rfl, .refl _⟩, rfl, ⟨_, rfl, .refl _⟩, rfl, ⟨_, rfl, .refl _⟩, rfl, ⟨_, rfl, .refl _⟩, rfl, ⟨_, rfl, .refl _⟩, rfl, trivial⟩ ⟨⟨rfl, rfl, _, rfl, .refl _⟩, ⟨rfl, rfl, _, rfl, .refl _⟩, ⟨rfl, rfl, _, rfl, .refl _⟩, trivial⟩) ?_
  intro i hi
  refine wc_of ?_
  refine wc_seq ?_
  refine wc_region ?_
  refine reg_quiet rfl (step_C tab_ok (fun K hk => hk)) ?_
  refine reg_nil ?_
  refine seq_n ?_
  refine wc_seq ?_
  have h3 : decide ((i : Int) < 2) = true := decide_eq_true (by rcases hi with h | h <;> omega)
  refine wc_cond rfl (fun h3 => ?_) (fun h4 => by rw [h3] at h4; cases h4)
  rcases Classical.em (i = 0 ∧ chkL l = 0) with ⟨rfl, hz⟩ | hz
  · obtain ⟨x, rfl, hx⟩ : ∃ x, x = l ∧ [l, m][(((0 : Nat) : Int)).toNat]? = some x := ⟨l, rfl, rfl⟩
    have hC := ledcheck_is x
    rw [hz] at hC
    refine wc_skip ?_
    refine seq_n ?_
    refine wc_seq ?_
    refine wc_block ?_
    refine wc_seq ?_
    refine wc_region ?_
    refine reg_quiet rfl (index_vec (z := encLed x) tab_ok rfl rfl rfl rfl rfl (by omega) (by omega) ⟨rfl, _, hx, rfl⟩ rfl) ?_
    refine reg_new (step_C tab_ok (fun K hk => hk)) rfl ?_
    refine reg_store (store_row tab_ok rfl rfl rfl ⟨_, ⟨rfl, rfl, rfl⟩, rfl⟩ rfl) ?_
    refine reg_nil ?_
    refine seq_n ?_
    refine wc_seq ?_
    refine wc_region ?_
    refine reg_quiet rfl (load_box tab_ok rfl rfl rfl rfl) ?_
    refine reg_quiet rfl (call_r hC rfl rfl (arg_e arg_nil) (.inl rfl) (fun _ => rfl)) ?_
    refine reg_quiet rfl (step_C tab_ok (fun K hk => hk)) ?_
    refine reg_nil ?_
    refine seq_n ?_
    refine wc_seq ?_
    refine wc_region ?_
    refine reg_quiet rfl (step_C tab_ok (fun K hk => hk)) ?_
    refine reg_quiet rfl (step_C tab_ok (fun K hk => hk)) ?_
    refine reg_nil ?_
    refine seq_n ?_
    refine wc_false rfl rfl ?_
    refine wc_skip ?_
    refine blk_n ?_
    refine seq_n ?_
    refine wc_region ?_
    refine reg_quiet rfl (add_int tab_ok rfl rfl (wrap_i64 (by omega) (by omega))) ?_
    refine reg_quiet rfl (step_C tab_ok (fun K hk => hk)) ?_
    refine reg_nil ?_
    refine loop_n 1 [(64, some 64), (72, some 72), (80, some 80)] (.inr ⟨rfl, hz⟩) (by omega) ?_
    exact (.of rfl rfl rfl rfl rfl ⟨⟨_, rfl, .refl _⟩, rfl, ⟨_, rfl, .refl _⟩, rfl, ⟨_, rfl, .refl _⟩, rfl, ⟨_, rfl, .refl _⟩, rfl, ⟨_, rfl, .refl _⟩, rfl, ⟨_, rfl, .refl _⟩, rfl, trivial⟩ ⟨⟨rfl, rfl, _, rfl, .refl _⟩, ⟨rfl, rfl, _, rfl, .refl _⟩, ⟨rfl, rfl, _, rfl, .refl _⟩, trivial⟩)
  · obtain ⟨x, hx, hx0⟩ : ∃ x, [l, m][((i : Int)).toNat]? = some x ∧ chkL x = e := by
      rw [Int.toNat_natCast]
      rcases hi with rfl | ⟨rfl, h0⟩
      · exact ⟨l, rfl, by rcases h1 with h | ⟨h, _⟩; exact h; exact absurd ⟨rfl, h⟩ hz⟩
      · exact ⟨m, rfl, by rcases h1 with h | ⟨_, h⟩; exact absurd (h.symm.trans h0) he; exact h⟩
    have hC := ledcheck_is x
    rw [hx0] at hC
    have hn : (!decide (e = 0)) = true := by rw [decide_eq_false he]; rfl
    refine wc_skip ?_
    refine seq_n ?_
    refine wc_seq ?_
    refine wc_block ?_
    refine wc_seq ?_
    refine wc_region ?_
    refine reg_quiet rfl (index_vec (z := encLed x) tab_ok rfl rfl rfl rfl rfl (by omega) (by omega) ⟨rfl, _, hx, rfl⟩ rfl) ?_
    refine reg_new (step_C tab_ok (fun K hk => hk)) rfl ?_
    refine reg_store (store_row tab_ok rfl rfl rfl ⟨_, ⟨rfl, rfl, rfl⟩, rfl⟩ rfl) ?_
    refine reg_nil ?_
    refine seq_n ?_
    refine wc_seq ?_
    refine wc_region ?_
    refine reg_quiet rfl (load_box tab_ok rfl rfl rfl rfl) ?_
    refine reg_quiet rfl (call_r hC rfl rfl (arg_e arg_nil) (.inl rfl) (fun _ => rfl)) ?_
    refine reg_quiet rfl (step_C tab_ok (fun K hk => hk)) ?_
    refine reg_nil ?_
    refine seq_n ?_
    refine wc_seq ?_
    refine wc_region ?_
    refine reg_quiet rfl (step_C tab_ok (fun K hk => hk)) ?_
    refine reg_quiet rfl (step_C tab_ok (fun K hk => hk)) ?_
    refine reg_nil ?_
    refine seq_n ?_
    refine wc_true rfl (by assumption) ?_
    refine wc_seq ?_
    refine wc_region ?_
    refine reg_quiet rfl (build_struct tab_ok rfl rfl rfl rfl) ?_
    refine reg_quiet rfl (step_C tab_ok (fun K hk => hk)) ?_
    refine reg_store (store_row tab_ok rfl rfl rfl ⟨_, ⟨rfl, rfl, rfl⟩, rfl⟩ rfl) ?_
    refine reg_quiet rfl (step_C tab_ok (fun K hk => hk)) ?_
    refine reg_nil ?_
    refine seq_n ?_
    refine wc_ret ?_
    refine blk_r ?_
    refine seq_r ?_
    refine loop_r ?_
    refine blk_r ?_
    refine seq_r ?_
    exact ⟨trivial, _, rfl, [], .of rfl rfl rfl rfl rfl ⟨⟨_, rfl, zero_ledX⟩, rfl, trivial⟩ trivial⟩
end Go.Proofs.Ytjpjchohpjbknaa
