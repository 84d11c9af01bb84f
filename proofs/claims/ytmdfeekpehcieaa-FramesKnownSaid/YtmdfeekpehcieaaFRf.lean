/- FramesRef walked. -/
import Derived.Test.YtmdfeekpehcieaaFC
import Derived.Test.YtmdfeekpehcieaaEngB

set_option linter.unusedVariables false
set_option linter.unusedSimpArgs false

/- FramesRef: a frame that was made Ref is not the next victim. -/
namespace Go.Proofs.Ytmdfeekpehcieaa
open Go.Eng
set_option maxHeartbeats 2000000
attribute [local irreducible] WC RegS RegD SeqQ BlkQ ScoQ RegK CutK Sat SatN FnIs LoopQ StepIs OpIs
theorem mix_zero (l : List Frame) : mix l 0 = l := by simp [mix]
abbrev u8d (n : Int) : D := .sc (.int .u8 n)
theorem framesRef_is (L : List Int) (hL : Bytes L) (hand which : Int) (hh : 0 ≤ hand ∧ hand ≤ 255) (hw : 0 ≤ which ∧ which ≤ 255) : FnIs Try.prog 5 [.d (encF L), .d (u8d hand), .d (u8d which)] [] (.bool true) [] := by
  refine fnIs_of tab_ok Try.func5 rfl rfl rfl ?_
  have hlen12 : (ofL L).length ≤ 12 := by rw [ofL, ofK_len]; omega
  refine wc_seq ?_
  refine wc_region ?_
  refine reg_new (step_C tab_ok (fun K hk => hk)) rfl ?_
  refine reg_quiet rfl (step_C tab_ok (fun K hk => hk)) ?_
  refine reg_nil ?_
  refine seq_n ?_
  refine wc_seq ?_
  refine wc_region ?_
  refine reg_quiet rfl (load_box tab_ok rfl rfl rfl rfl) ?_
  refine reg_new (call_new (of_is L hL) rfl rfl (arg_e arg_nil) (.inl rfl) rfl rfl) rfl ?_
  refine reg_quiet rfl (step_C tab_ok (fun K hk => hk)) ?_
  refine reg_nil ?_
  refine seq_n ?_
  refine wc_seq ?_
  refine wc_seq ?_
  refine wc_region ?_
  refine reg_quiet rfl (step_C tab_ok (fun K hk => hk)) ?_
  refine reg_quiet rfl (len_own tab_ok rfl rfl) ?_
  refine reg_quiet rfl (step_C tab_ok (fun K hk => hk)) ?_
  refine reg_nil ?_
  refine seq_n ?_
  refine wc_cond rfl (fun hb => ?_) (fun hb => ?_)
  · refine wc_seq ?_
    refine wc_region ?_
    refine reg_quiet rfl (call_r lives_is rfl rfl arg_nil (.inl rfl) (fun _ => rfl)) ?_
    refine reg_quiet rfl (step_C tab_ok (fun K hk => hk)) ?_
    refine reg_nil ?_
    refine seq_n ?_
    refine wc_ret ?_
    refine seq_r ?_
    exact ⟨trivial, [], .of rfl rfl rfl rfl rfl ⟨⟨_, rfl, AVLe.of_eq rfl⟩, rfl, trivial⟩ trivial⟩
  have hn0 : ¬ ((ofL L).length : Int) = 0 := of_decide_eq_false hb
  obtain ⟨l, hl⟩ : ∃ l, ofL L = l := ⟨_, rfl⟩
  rw [hl] at hlen12 hn0
  obtain ⟨kk, hkk⟩ : ∃ k : Nat, which.tmod (l.length : Int) = (k : Int) := ⟨(which.tmod (l.length : Int)).toNat, by have := Int.tmod_nonneg (l.length : Int) hw.1; omega⟩
  have hkl : kk < l.length := by have := Int.tmod_lt_of_pos which (show (0 : Int) < (l.length : Int) by omega); omega
  obtain ⟨hN, hhN⟩ : ∃ k : Nat, hand.tmod (l.length : Int) = (k : Int) := ⟨(hand.tmod (l.length : Int)).toNat, by have := Int.tmod_nonneg (l.length : Int) hh.1; omega⟩
  have hNl : hN < l.length := by have := Int.tmod_lt_of_pos hand (show (0 : Int) < (l.length : Int) by omega); omega
  rw [hl]
  refine wc_skip ?_
  refine seq_n ?_
  refine wc_seq ?_
  refine wc_region ?_
  refine reg_quiet rfl (step_C tab_ok (fun K hk => hk)) ?_
  refine reg_quiet rfl (conv_int tab_ok rfl rfl rfl (wrap_i64 (by omega) (by omega))) ?_
  refine reg_quiet rfl (step_C tab_ok (fun K hk => hk)) ?_
  refine reg_quiet rfl (len_own tab_ok rfl rfl) ?_
  refine reg_quiet rfl (rem_int tab_ok rfl rfl (by omega)) ?_
  refine reg_quiet rfl (step_C tab_ok (fun K hk => hk)) ?_
  refine reg_nil ?_
  refine seq_n ?_
  refine wc_seq ?_
  refine wc_region ?_
  refine reg_quiet rfl (step_C tab_ok (fun K hk => hk)) ?_
  refine reg_nil ?_
  refine seq_n ?_
  refine wc_seq ?_
  refine wc_seq ?_
  refine wc_region ?_
  refine reg_quiet rfl (step_C tab_ok (fun K hk => hk)) ?_
  refine reg_nil ?_
  refine seq_n ?_
  refine wc_block ?_
  refine wc_inv (fun i : Nat => ⟨[(10, .int .i64 i), (9, .int .i64 (othK (fill l) kk i)), (8, .int .i64 kk), (7, .own 64 0 l.length 40 none), (1, .d (u8d hand))], [(64, some (.ds 39 40 false encFrame (mix l i)))], 72, Try.f5.ntmps, 64⟩) (fun i => i ≤ l.length) (fun i => l.length - i) 0 [(64, some 88)] (Nat.zero_le _)
    (.of rfl rfl rfl rfl rfl ⟨⟨_, rfl, .refl _⟩, rfl, ⟨_, rfl, .refl _⟩, rfl, ⟨_, rfl, .of_eq (by rw [hkk]; rfl)⟩, rfl, ⟨_, rfl, .refl _⟩, rfl, ⟨_, rfl, .refl _⟩, rfl, trivial⟩ ⟨⟨rfl, rfl, _, rfl, .of_eq (by rw [mix_zero]; rfl)⟩, trivial⟩) ?_
  intro i hi
  have ho := oth_bound (fill l) kk i
  refine wc_of ?_
  refine wc_seq ?_
  refine wc_seq ?_
  refine wc_region ?_
  refine reg_quiet rfl (step_C tab_ok (fun K hk => hk)) ?_
  refine reg_quiet rfl (step_C tab_ok (fun K hk => hk)) ?_
  refine reg_quiet rfl (len_own tab_ok rfl rfl) ?_
  refine reg_quiet rfl (step_C tab_ok (fun K hk => hk)) ?_
  refine reg_nil ?_
  refine seq_n ?_
  refine wc_cond rfl (fun hb1 => ?_) (fun hb1 => ?_)
  · have hlt : i < l.length := by have := of_decide_eq_true hb1; omega
    obtain ⟨f, hf0⟩ : ∃ f, l[i]? = some f := ⟨_, List.getElem?_eq_getElem hlt⟩
    have hf' : (mix l i)[((i : Int)).toNat]? = some f := by rw [Int.toNat_natCast]; exact mix_get hf0
    have hF := fill_get hf0
    have hset := mix_set hf0
    refine wc_skip ?_
    refine seq_n ?_
    refine wc_seq ?_
    refine wc_block ?_
    refine wc_seq ?_
    refine wc_seq ?_
    refine wc_region ?_
    refine reg_quiet rfl (step_C tab_ok (fun K hk => hk)) ?_
    refine reg_quiet rfl (step_C tab_ok (fun K hk => hk)) ?_
    refine reg_quiet rfl (index_own tab_ok rfl rfl rfl rfl rfl (by omega) (by omega)) ?_
    refine reg_quiet rfl (step_C tab_ok (fun K hk => hk)) ?_
    refine reg_quiet rfl (load_row (v := .d (bo f.used)) tab_ok rfl rfl ⟨rfl, f, hf', bo f.used, rfl, rfl⟩ rfl) ?_
    refine reg_quiet rfl (step_C tab_ok (fun K hk => hk)) ?_
    refine reg_nil ?_
    refine seq_n ?_
    refine wc_cond rfl (fun hu => ?_) (fun hu => ?_)
    · have hu' : f.used = false := by simpa using hu
      obtain ⟨g, hg⟩ : ∃ g, oneF 1 i = g := ⟨_, rfl⟩
      rw [fillF, if_neg (by simp [hu']), hg] at hset hF
      have hg' : ((mix l i).set ((i : Int)).toNat (oneF 1 i))[((i : Int)).toNat]? = some g := by
        rw [Int.toNat_natCast, hg, List.getElem?_set, if_pos rfl, if_pos (by rw [mix_len hi]; exact hlt)]
      have hev := evI_bound g
      have hoth : othK (fill l) kk (i + 1) = othK (fill l) kk i + (if i ≠ kk ∧ g.ref = false then (if evB g = true then 1 else 0) else 0) := by simp only [othK, hF]
      refine wc_region ?_
      refine reg_quiet rfl (step_C tab_ok (fun K hk => hk)) ?_
      refine reg_quiet rfl (step_C tab_ok (fun K hk => hk)) ?_
      refine reg_quiet rfl (step_C tab_ok (fun K hk => hk)) ?_
      refine reg_quiet rfl (call_r (one_is _ _) rfl rfl (arg_e (arg_e arg_nil)) (.inl rfl) (fun _ => rfl)) ?_
      refine reg_quiet rfl (index_own tab_ok rfl rfl rfl rfl rfl (by omega) (by omega)) ?_
      refine reg_store (store_row tab_ok rfl rfl rfl ⟨rfl, f, oneF 1 i, by assumption, ⟨rfl, rfl, rfl⟩, rfl⟩ rfl) ?_
      refine reg_nil ?_
      refine seq_n ?_
      refine wc_seq_cut 53 (.bool (!decide ((i : Int) = (kk : Int)) && !g.ref)) _ rfl ?_ ?_
      · refine reg_quiet rfl (step_C tab_ok (fun K hk => hk)) ?_
        refine reg_quiet rfl (step_C tab_ok (fun K hk => hk)) ?_
        refine reg_quiet rfl (step_C tab_ok (fun K hk => hk)) ?_
        refine reg_quiet rfl (step_C tab_ok (fun K hk => hk)) ?_
        refine reg_split rfl rfl rfl (fun hb => ?_) (fun hb => ?_)
        refine reg_on rfl rfl (by assumption) ?_
        refine reg_quiet rfl (step_C tab_ok (fun K hk => hk)) ?_
        refine reg_on rfl rfl (by assumption) ?_
        refine reg_quiet rfl (step_C tab_ok (fun K hk => hk)) ?_
        refine reg_on rfl rfl (by assumption) ?_
        refine reg_quiet rfl (index_own tab_ok rfl rfl rfl rfl rfl (by omega) (by omega)) ?_
        refine reg_on rfl rfl (by assumption) ?_
        refine reg_quiet rfl (step_C tab_ok (fun K hk => hk)) ?_
        refine reg_on rfl rfl (by assumption) ?_
        refine reg_quiet rfl (load_row (v := .d (bo g.ref)) tab_ok rfl rfl ⟨rfl, g, hg', bo g.ref, rfl, rfl⟩ rfl) ?_
        refine reg_on rfl rfl (by assumption) ?_
        refine reg_quiet rfl (step_C tab_ok (fun K hk => hk)) ?_
        refine reg_quiet rfl (pick_T tab_ok rfl (by assumption) rfl) ?_
        rotate_left
        refine reg_skip rfl rfl (by assumption) rfl rfl ?_
        refine reg_skip rfl rfl (by assumption) rfl rfl ?_
        refine reg_skip rfl rfl (by assumption) rfl rfl ?_
        refine reg_skip rfl rfl (by assumption) rfl rfl ?_
        refine reg_skip rfl rfl (by assumption) rfl rfl ?_
        refine reg_skip rfl rfl (by assumption) rfl rfl ?_
        refine reg_quiet rfl (pick_F tab_ok rfl (by assumption) rfl) ?_
        rotate_left
        all_goals refine reg_cut 11 rfl rfl rfl rfl rfl rfl rfl rfl rfl (AVLe.of_eq ?_)
        all_goals (first | rfl | (simp_all; done) | (simp_all; omega))
      refine wc_cond rfl (fun hq => ?_) (fun hq => ?_)
      · skip
        have hoth2 : othK (fill l) kk (i + 1) = othK (fill l) kk i + (if evB g = true then 1 else 0) := by rw [hoth, if_pos (by simp only [Bool.and_eq_true, Bool.not_eq_true', decide_eq_false_iff_not] at hq; exact ⟨by omega, hq.2⟩)]
        refine wc_region ?_
        refine reg_quiet rfl (step_C tab_ok (fun K hk => hk)) ?_
        refine reg_quiet rfl (step_C tab_ok (fun K hk => hk)) ?_
        refine reg_quiet rfl (step_C tab_ok (fun K hk => hk)) ?_
        refine reg_quiet rfl (index_own tab_ok rfl rfl rfl rfl rfl (by omega) (by omega)) ?_
        refine reg_quiet rfl (load_row tab_ok rfl rfl ⟨rfl, _, by assumption, _, rfl, rfl⟩ rfl) ?_
        refine reg_quiet rfl (call_r (ev_is _) rfl rfl (arg_e arg_nil) (.inl rfl) (fun _ => rfl)) ?_
        refine reg_quiet rfl (add_int tab_ok rfl rfl (wrap_i64 (by omega) (by omega))) ?_
        refine reg_quiet rfl (step_C tab_ok (fun K hk => hk)) ?_
        refine reg_nil ?_
        refine blk_n ?_
        refine seq_n ?_
        refine wc_region ?_
        refine reg_quiet rfl (step_C tab_ok (fun K hk => hk)) ?_
        refine reg_quiet rfl (add_int tab_ok rfl rfl (wrap_i64 (by omega) (by omega))) ?_
        refine reg_quiet rfl (step_C tab_ok (fun K hk => hk)) ?_
        refine reg_nil ?_
        refine loop_n (i + 1) [] hlt (by omega) ?_
        exact .of rfl rfl rfl rfl rfl ⟨⟨_, rfl, .refl _⟩, rfl, ⟨_, rfl, .of_eq (by rw [hoth2]; rfl)⟩, rfl, ⟨_, rfl, .refl _⟩, rfl, ⟨_, rfl, .refl _⟩, rfl, ⟨_, rfl, .refl _⟩, rfl, trivial⟩ ⟨⟨rfl, rfl, _, rfl, .of_eq (by rw [← hset, ← hg]; rfl)⟩, trivial⟩
      · skip
        have hoth2 : othK (fill l) kk (i + 1) = othK (fill l) kk i := by rw [hoth, if_neg (by rintro ⟨h1, h2⟩; simp [h2] at hq; omega)]; simp
        refine wc_skip ?_
        refine blk_n ?_
        refine seq_n ?_
        refine wc_region ?_
        refine reg_quiet rfl (step_C tab_ok (fun K hk => hk)) ?_
        refine reg_quiet rfl (add_int tab_ok rfl rfl (wrap_i64 (by omega) (by omega))) ?_
        refine reg_quiet rfl (step_C tab_ok (fun K hk => hk)) ?_
        refine reg_nil ?_
        refine loop_n (i + 1) [] hlt (by omega) ?_
        exact .of rfl rfl rfl rfl rfl ⟨⟨_, rfl, .refl _⟩, rfl, ⟨_, rfl, .of_eq (by rw [hoth2]; rfl)⟩, rfl, ⟨_, rfl, .refl _⟩, rfl, ⟨_, rfl, .refl _⟩, rfl, ⟨_, rfl, .refl _⟩, rfl, trivial⟩ ⟨⟨rfl, rfl, _, rfl, .of_eq (by rw [← hset, ← hg]; rfl)⟩, trivial⟩
    · have hu' : f.used = true := by simpa using hu
      have hkeep := mix_keep hf0 hu'
      obtain ⟨g, hg⟩ : ∃ g, f = g := ⟨_, rfl⟩
      rw [fillF, if_pos hu', hg] at hF
      have hg' : (mix l i)[((i : Int)).toNat]? = some g := by rw [← hg]; exact hf'
      have hev := evI_bound g
      have hoth : othK (fill l) kk (i + 1) = othK (fill l) kk i + (if i ≠ kk ∧ g.ref = false then (if evB g = true then 1 else 0) else 0) := by simp only [othK, hF]
      refine wc_skip ?_
      refine seq_n ?_
      refine wc_seq_cut 53 (.bool (!decide ((i : Int) = (kk : Int)) && !g.ref)) _ rfl ?_ ?_
      · refine reg_quiet rfl (step_C tab_ok (fun K hk => hk)) ?_
        refine reg_quiet rfl (step_C tab_ok (fun K hk => hk)) ?_
        refine reg_quiet rfl (step_C tab_ok (fun K hk => hk)) ?_
        refine reg_quiet rfl (step_C tab_ok (fun K hk => hk)) ?_
        refine reg_split rfl rfl rfl (fun hb => ?_) (fun hb => ?_)
        refine reg_on rfl rfl (by assumption) ?_
        refine reg_quiet rfl (step_C tab_ok (fun K hk => hk)) ?_
        refine reg_on rfl rfl (by assumption) ?_
        refine reg_quiet rfl (step_C tab_ok (fun K hk => hk)) ?_
        refine reg_on rfl rfl (by assumption) ?_
        refine reg_quiet rfl (index_own tab_ok rfl rfl rfl rfl rfl (by omega) (by omega)) ?_
        refine reg_on rfl rfl (by assumption) ?_
        refine reg_quiet rfl (step_C tab_ok (fun K hk => hk)) ?_
        refine reg_on rfl rfl (by assumption) ?_
        refine reg_quiet rfl (load_row (v := .d (bo g.ref)) tab_ok rfl rfl ⟨rfl, g, hg', bo g.ref, rfl, rfl⟩ rfl) ?_
        refine reg_on rfl rfl (by assumption) ?_
        refine reg_quiet rfl (step_C tab_ok (fun K hk => hk)) ?_
        refine reg_quiet rfl (pick_T tab_ok rfl (by assumption) rfl) ?_
        rotate_left
        refine reg_skip rfl rfl (by assumption) rfl rfl ?_
        refine reg_skip rfl rfl (by assumption) rfl rfl ?_
        refine reg_skip rfl rfl (by assumption) rfl rfl ?_
        refine reg_skip rfl rfl (by assumption) rfl rfl ?_
        refine reg_skip rfl rfl (by assumption) rfl rfl ?_
        refine reg_skip rfl rfl (by assumption) rfl rfl ?_
        refine reg_quiet rfl (pick_F tab_ok rfl (by assumption) rfl) ?_
        rotate_left
        all_goals refine reg_cut 11 rfl rfl rfl rfl rfl rfl rfl rfl rfl (AVLe.of_eq ?_)
        all_goals (first | rfl | (simp_all; done) | (simp_all; omega))
      refine wc_cond rfl (fun hq => ?_) (fun hq => ?_)
      · skip
        have hoth2 : othK (fill l) kk (i + 1) = othK (fill l) kk i + (if evB g = true then 1 else 0) := by rw [hoth, if_pos (by simp only [Bool.and_eq_true, Bool.not_eq_true', decide_eq_false_iff_not] at hq; exact ⟨by omega, hq.2⟩)]
        refine wc_region ?_
        refine reg_quiet rfl (step_C tab_ok (fun K hk => hk)) ?_
        refine reg_quiet rfl (step_C tab_ok (fun K hk => hk)) ?_
        refine reg_quiet rfl (step_C tab_ok (fun K hk => hk)) ?_
        refine reg_quiet rfl (index_own tab_ok rfl rfl rfl rfl rfl (by omega) (by omega)) ?_
        refine reg_quiet rfl (load_row tab_ok rfl rfl ⟨rfl, _, by assumption, _, rfl, rfl⟩ rfl) ?_
        refine reg_quiet rfl (call_r (ev_is _) rfl rfl (arg_e arg_nil) (.inl rfl) (fun _ => rfl)) ?_
        refine reg_quiet rfl (add_int tab_ok rfl rfl (wrap_i64 (by omega) (by omega))) ?_
        refine reg_quiet rfl (step_C tab_ok (fun K hk => hk)) ?_
        refine reg_nil ?_
        refine blk_n ?_
        refine seq_n ?_
        refine wc_region ?_
        refine reg_quiet rfl (step_C tab_ok (fun K hk => hk)) ?_
        refine reg_quiet rfl (add_int tab_ok rfl rfl (wrap_i64 (by omega) (by omega))) ?_
        refine reg_quiet rfl (step_C tab_ok (fun K hk => hk)) ?_
        refine reg_nil ?_
        refine loop_n (i + 1) [] hlt (by omega) ?_
        exact .of rfl rfl rfl rfl rfl ⟨⟨_, rfl, .refl _⟩, rfl, ⟨_, rfl, .of_eq (by rw [hoth2]; rfl)⟩, rfl, ⟨_, rfl, .refl _⟩, rfl, ⟨_, rfl, .refl _⟩, rfl, ⟨_, rfl, .refl _⟩, rfl, trivial⟩ ⟨⟨rfl, rfl, _, rfl, .of_eq (by rw [← hkeep]; rfl)⟩, trivial⟩
      · skip
        have hoth2 : othK (fill l) kk (i + 1) = othK (fill l) kk i := by rw [hoth, if_neg (by rintro ⟨h1, h2⟩; simp [h2] at hq; omega)]; simp
        refine wc_skip ?_
        refine blk_n ?_
        refine seq_n ?_
        refine wc_region ?_
        refine reg_quiet rfl (step_C tab_ok (fun K hk => hk)) ?_
        refine reg_quiet rfl (add_int tab_ok rfl rfl (wrap_i64 (by omega) (by omega))) ?_
        refine reg_quiet rfl (step_C tab_ok (fun K hk => hk)) ?_
        refine reg_nil ?_
        refine loop_n (i + 1) [] hlt (by omega) ?_
        exact .of rfl rfl rfl rfl rfl ⟨⟨_, rfl, .refl _⟩, rfl, ⟨_, rfl, .of_eq (by rw [hoth2]; rfl)⟩, rfl, ⟨_, rfl, .refl _⟩, rfl, ⟨_, rfl, .refl _⟩, rfl, ⟨_, rfl, .refl _⟩, rfl, trivial⟩ ⟨⟨rfl, rfl, _, rfl, .of_eq (by rw [← hkeep]; rfl)⟩, trivial⟩
  · have he : i = l.length := by have := of_decide_eq_false hb1; omega
    subst he
    obtain ⟨fk, hfk⟩ : ∃ fk, (fill l)[kk]? = some fk := ⟨_, List.getElem?_eq_getElem (by rw [fill_len]; exact hkl)⟩
    have hfk' : (mix l l.length)[((kk : Int)).toNat]? = some fk := by rw [Int.toNat_natCast, mix_full]; exact hfk
    refine wc_exit ?_
    refine seq_x ?_
    refine loop_x ?_
    refine blk_x ?_
    refine seq_n ?_
    refine wc_seq ?_
    refine wc_seq_cut 70 (.bool (decide (othK (fill l) kk l.length = 0) || decide ((if evB fk = true then (1 : Int) else 0) = 0))) _ rfl ?_ ?_
    · refine reg_quiet rfl (step_C tab_ok (fun K hk => hk)) ?_
      refine reg_quiet rfl (step_C tab_ok (fun K hk => hk)) ?_
      refine reg_quiet rfl (step_C tab_ok (fun K hk => hk)) ?_
      refine reg_split rfl rfl rfl (fun hb => ?_) (fun hb => ?_)
      refine reg_on rfl rfl (by assumption) ?_
      refine reg_quiet rfl (step_C tab_ok (fun K hk => hk)) ?_
      refine reg_on rfl rfl (by assumption) ?_
      refine reg_quiet rfl (step_C tab_ok (fun K hk => hk)) ?_
      refine reg_on rfl rfl (by assumption) ?_
      refine reg_quiet rfl (index_own tab_ok rfl rfl rfl rfl rfl (by omega) (by omega)) ?_
      refine reg_on rfl rfl (by assumption) ?_
      refine reg_quiet rfl (load_row tab_ok rfl rfl ⟨rfl, _, by assumption, _, rfl, rfl⟩ rfl) ?_
      refine reg_on rfl rfl (by assumption) ?_
      refine reg_quiet rfl (call_r (ev_is _) rfl rfl (arg_e arg_nil) (.inl rfl) (fun _ => rfl)) ?_
      refine reg_on rfl rfl (by assumption) ?_
      refine reg_quiet rfl (step_C tab_ok (fun K hk => hk)) ?_
      refine reg_quiet rfl (pick_F tab_ok rfl (by assumption) rfl) ?_
      rotate_left
      refine reg_skip rfl rfl (by assumption) rfl rfl ?_
      refine reg_skip rfl rfl (by assumption) rfl rfl ?_
      refine reg_skip rfl rfl (by assumption) rfl rfl ?_
      refine reg_skip rfl rfl (by assumption) rfl rfl ?_
      refine reg_skip rfl rfl (by assumption) rfl rfl ?_
      refine reg_skip rfl rfl (by assumption) rfl rfl ?_
      refine reg_quiet rfl (pick_T tab_ok rfl (by assumption) rfl) ?_
      rotate_left
      all_goals refine reg_cut 10 rfl rfl rfl rfl rfl rfl rfl rfl rfl (AVLe.of_eq ?_)
      all_goals (first | rfl | (simp_all; done) | (simp_all; omega))
    refine wc_cond rfl (fun hq => ?_) (fun hq => ?_)
    · refine wc_seq ?_
      refine wc_region ?_
      refine reg_quiet rfl (call_r lives_is rfl rfl arg_nil (.inl rfl) (fun _ => rfl)) ?_
      refine reg_quiet rfl (step_C tab_ok (fun K hk => hk)) ?_
      refine reg_nil ?_
      refine seq_n ?_
      refine wc_ret ?_
      refine seq_r ?_
      exact ⟨trivial, [], .of rfl rfl rfl rfl rfl ⟨⟨_, rfl, AVLe.of_eq rfl⟩, rfl, trivial⟩ trivial⟩
    · rw [Bool.or_eq_false_iff] at hq
      have ho0 : othK (fill l) kk l.length ≠ 0 := of_decide_eq_false hq.1
      have hfe : evB fk = true := by cases h : evB fk <;> simp_all
      obtain ⟨j, fj, hjk, hj, hjr, hje⟩ := oth_some (fill l) kk l.length ho0
      obtain ⟨G, hG⟩ : ∃ G, (mix l l.length).set ((kk : Int)).toNat { fk with ref := true } = G := ⟨_, rfl⟩
      have hG2 : G = (fill l).set kk { fk with ref := true } := by rw [← hG, mix_full]; rfl
      have hGlen : G.length = l.length := by rw [hG2, List.length_set, fill_len]
      have hGl : l.length = ((mix l l.length).set ((kk : Int)).toNat { fk with ref := true }).length := by rw [hG, hGlen]
      have hGu : (G.any fun f => !f.used) = false := by
        rw [List.any_eq_false]
        intro x hx
        rw [hG2] at hx
        rcases List.mem_or_eq_of_mem_set hx with h | rfl
        · exact List.any_eq_false.1 fill_used x h
        · have := List.any_eq_false.1 (fill_used (l := l)) fk (List.mem_of_getElem? hfk)
          simpa using this
      have hGk : G[kk]? = some { fk with ref := true } := by rw [hG2, List.getElem?_set, if_pos rfl, if_pos (by rw [fill_len]; exact hkl)]
      have hGj : G[j]? = some fj := by rw [hG2, List.getElem?_set, if_neg (fun e => hjk e.symm)]; exact hj
      have hGx : (G.any fun f => !f.used || evB f) = true := any_hit hGj (by simp [hje])
      have hV := victim_ok G hN (by omega) (by omega) hGx
      have hne : (!decide (vAt G hN = (kk : Int))) = true := by
        have := ref_law (hand := hN) hGu hGk rfl hGj hjk hjr hje
        simpa using this
      rw [show i6 (hN : Int) = i6 (hand.tmod (l.length : Int)) by rw [hhN], ← hG] at hV
      rw [← hG] at hne
      refine wc_skip ?_
      refine seq_n ?_
      refine wc_seq ?_
      refine wc_region ?_
      refine reg_quiet rfl (step_C tab_ok (fun K hk => hk)) ?_
      refine reg_quiet rfl (step_C tab_ok (fun K hk => hk)) ?_
      refine reg_quiet rfl (index_own tab_ok rfl rfl rfl rfl rfl (by omega) (by omega)) ?_
      refine reg_quiet rfl (step_C tab_ok (fun K hk => hk)) ?_
      refine reg_store (store_row tab_ok rfl rfl rfl ⟨rfl, fk, { fk with ref := true }, by assumption, ⟨_, ⟨rfl, rfl, rfl⟩, rfl⟩, rfl⟩ rfl) ?_
      refine reg_nil ?_
      refine seq_n ?_
      refine wc_seq ?_
      refine wc_region ?_
      refine reg_quiet rfl (step_C tab_ok (fun K hk => hk)) ?_
      refine reg_quiet rfl (step_C tab_ok (fun K hk => hk)) ?_
      refine reg_quiet rfl (conv_int tab_ok rfl rfl rfl (wrap_i64 (by omega) (by omega))) ?_
      refine reg_quiet rfl (step_C tab_ok (fun K hk => hk)) ?_
      refine reg_quiet rfl (len_own tab_ok rfl rfl) ?_
      refine reg_quiet rfl (rem_int tab_ok rfl rfl (by omega)) ?_
      refine reg_new (call_new hV rfl rfl (arg_ownL rfl hGl (arg_e arg_nil)) (.inr (victim_plain _ _ _ _ _ _)) rfl rfl) rfl ?_
      refine reg_quiet rfl (step_C tab_ok (fun K hk => hk)) ?_
      refine reg_quiet rfl (step_C tab_ok (fun K hk => hk)) ?_
      refine reg_quiet rfl (step_C tab_ok (fun K hk => hk)) ?_
      refine reg_quiet rfl (step_C tab_ok (fun K hk => hk)) ?_
      refine reg_quiet rfl (step_C tab_ok (fun K hk => hk)) ?_
      refine reg_quiet rfl (step_C tab_ok (fun K hk => hk)) ?_
      refine reg_quiet rfl (step_C tab_ok (fun K hk => hk)) ?_
      refine reg_quiet rfl (step_C tab_ok (fun K hk => hk)) ?_
      refine reg_quiet rfl (step_C tab_ok (fun K hk => hk)) ?_
      refine reg_nil ?_
      refine seq_n ?_
      refine wc_seq ?_
      refine wc_region ?_
      refine reg_quiet rfl (step_C tab_ok (fun K hk => hk)) ?_
      refine reg_quiet rfl (step_C tab_ok (fun K hk => hk)) ?_
      refine reg_quiet rfl (step_C tab_ok (fun K hk => hk)) ?_
      refine reg_on rfl rfl rfl ?_
      refine reg_quiet rfl (step_C tab_ok (fun K hk => hk)) ?_
      refine reg_on rfl rfl rfl ?_
      refine reg_quiet rfl (step_C tab_ok (fun K hk => hk)) ?_
      refine reg_on rfl rfl rfl ?_
      refine reg_quiet rfl (step_C tab_ok (fun K hk => hk)) ?_
      refine reg_quiet rfl (pick_T tab_ok rfl rfl rfl) ?_
      refine reg_quiet rfl (step_C tab_ok (fun K hk => hk)) ?_
      refine reg_on rfl rfl (by assumption) ?_
      refine reg_quiet rfl (call_r lives_is rfl rfl arg_nil (.inl rfl) (fun _ => rfl)) ?_
      refine reg_quiet rfl (pick_T tab_ok rfl (by assumption) rfl) ?_
      refine reg_quiet rfl (step_C tab_ok (fun K hk => hk)) ?_
      refine reg_nil ?_
      refine seq_n ?_
      refine wc_ret ?_
      exact ⟨trivial, [], .of rfl rfl rfl rfl rfl ⟨⟨_, rfl, AVLe.of_eq rfl⟩, rfl, trivial⟩ trivial⟩
end Go.Proofs.Ytmdfeekpehcieaa
