/- FramesRef holds for every list of bytes, every hand and every frame. -/
import Derived.Test.YtmdfeekpehcieaaFC
import Derived.Test.YtmdfeekpehcieaaEngB
import Derived.Test.YtmdfeekpehcieaaRows

set_option linter.unusedVariables false
set_option linter.unusedSimpArgs false

/- FramesRef: a frame that was made Ref is not the next victim. -/
namespace Go.Proofs.Ytmdfeekpehcieaa
open Go.Eng
set_option maxHeartbeats 2000000
attribute [local irreducible] WC RegS RegD SeqQ BlkQ ScoQ RegK CutK Sat SatN FnIs LoopQ StepIs OpIs
theorem mix_zero (l : List Frame) : mix l 0 = l := by simp [mix]
abbrev u8d (n : Int) : D := .sc (.int .u8 n)
theorem framesRef_is (L : List Int) (hL : Bytes L) (hand which : Int) (hh : 0 ≤ hand ∧ hand ≤ 255) (hw : 0 ≤ which ∧ which ≤ 255) : FnIs Try.prog 5 [.d (encF L), .d (u8d hand), .d (u8d which)] [] (.bool true) [] := by
  refine fnIs_of tab_ok Try.func5 rfl rfl rfl ?_
  have hlen12 : (ofL L).length ≤ 12 := by rw [ofL, ofK_len]; omega
  refine wc_seq ?_
  refine wc_region ?_
  refine reg_new (step_C tab_ok (fun K hk => hk)) rfl ?_
  refine reg_quiet rfl (step_C tab_ok (fun K hk => hk)) ?_
  refine reg_nil ?_
  refine seq_n ?_
  refine wc_seq ?_
  refine wc_region ?_
  refine reg_quiet rfl (load_box tab_ok rfl rfl rfl rfl) ?_
  refine reg_new (call_new (of_is L hL) rfl rfl (arg_e arg_nil) (.inl rfl) rfl rfl) rfl ?_
  refine reg_quiet rfl (step_C tab_ok (fun K hk => hk)) ?_
  refine reg_nil ?_
  refine seq_n ?_
  refine wc_seq ?_
  refine wc_seq ?_
  refine wc_region ?_
  refine reg_quiet rfl (step_C tab_ok (fun K hk => hk)) ?_
  refine reg_quiet rfl (len_own tab_ok rfl rfl) ?_
  refine reg_quiet rfl (step_C tab_ok (fun K hk => hk)) ?_
  refine reg_nil ?_
  refine seq_n ?_
  refine wc_cond rfl (fun hb => ?_) (fun hb => ?_)
  · refine wc_seq ?_
    refine wc_region ?_
    refine reg_quiet rfl (call_r lives_is rfl rfl arg_nil (.inl rfl) (fun _ => rfl)) ?_
    refine reg_quiet rfl (step_C tab_ok (fun K hk => hk)) ?_
    refine reg_nil ?_
    refine seq_n ?_
    refine wc_ret ?_
    refine seq_r ?_
    exact ⟨trivial, [], .of rfl rfl rfl rfl rfl ⟨⟨_, rfl, AVLe.of_eq rfl⟩, rfl, trivial⟩ trivial⟩
  have hn0 : ¬ ((ofL L).length : Int) = 0 := of_decide_eq_false hb
  obtain ⟨l, hl⟩ : ∃ l, ofL L = l := ⟨_, rfl⟩
  rw [hl] at hlen12 hn0
  obtain ⟨kk, hkk⟩ : ∃ k : Nat, which.tmod (l.length : Int) = (k : Int) := ⟨(which.tmod (l.length : Int)).toNat, by have := Int.tmod_nonneg (l.length : Int) hw.1; omega⟩
  have hkl : kk < l.length := by have := Int.tmod_lt_of_pos which (show (0 : Int) < (l.length : Int) by omega); omega
  obtain ⟨hN, hhN⟩ : ∃ k : Nat, hand.tmod (l.length : Int) = (k : Int) := ⟨(hand.tmod (l.length : Int)).toNat, by have := Int.tmod_nonneg (l.length : Int) hh.1; omega⟩
  have hNl : hN < l.length := by have := Int.tmod_lt_of_pos hand (show (0 : Int) < (l.length : Int) by omega); omega
  rw [hl]
  refine wc_skip ?_
  refine seq_n ?_
  refine wc_seq ?_
  refine wc_region ?_
  refine reg_quiet rfl (step_C tab_ok (fun K hk => hk)) ?_
  refine reg_quiet rfl (conv_int tab_ok rfl rfl rfl (wrap_i64 (by omega) (by omega))) ?_
  refine reg_quiet rfl (step_C tab_ok (fun K hk => hk)) ?_
  refine reg_quiet rfl (len_own tab_ok rfl rfl) ?_
  refine reg_quiet rfl (rem_int tab_ok rfl rfl (by omega)) ?_
  refine reg_quiet rfl (step_C tab_ok (fun K hk => hk)) ?_
  refine reg_nil ?_
  refine seq_n ?_
  refine wc_seq ?_
  refine wc_region ?_
  refine reg_quiet rfl (step_C tab_ok (fun K hk => hk)) ?_
  refine reg_nil ?_
  refine seq_n ?_
  refine wc_seq ?_
  refine wc_seq ?_
  refine wc_region ?_
  refine reg_quiet rfl (step_C tab_ok (fun K hk => hk)) ?_
  refine reg_nil ?_
  refine seq_n ?_
  refine wc_block ?_
  refine wc_inv (fun i : Nat => ⟨[(10, .int .i64 i), (9, .int .i64 (othK (fill l) kk i)), (8, .int .i64 kk), (7, .own 64 0 l.length 40 none), (1, .d (u8d hand))], [(64, some (.ds 39 40 false encFrame (mix l i)))], 72, Try.f5.ntmps, 64⟩) (fun i => i ≤ l.length) (fun i => l.length - i) 0 [(64, some 88)] (Nat.zero_le _)
    (.of rfl rfl rfl rfl rfl ⟨⟨_, rfl, .refl _⟩, rfl, ⟨_, rfl, .refl _⟩, rfl, ⟨_, rfl, .of_eq (by rw [hkk]; rfl)⟩, rfl, ⟨_, rfl, .refl _⟩, rfl, ⟨_, rfl, .refl _⟩, rfl, trivial⟩ ⟨⟨rfl, rfl, _, rfl, .of_eq (by rw [mix_zero]; rfl)⟩, trivial⟩) ?_
  intro i hi
  have ho := oth_bound (fill l) kk i
  refine wc_of ?_
  refine wc_seq ?_
  refine wc_seq ?_
  refine wc_region ?_
  refine reg_quiet rfl (step_C tab_ok (fun K hk => hk)) ?_
  refine reg_quiet rfl (step_C tab_ok (fun K hk => hk)) ?_
  refine reg_quiet rfl (len_own tab_ok rfl rfl) ?_
  refine reg_quiet rfl (step_C tab_ok (fun K hk => hk)) ?_
  refine reg_nil ?_
  refine seq_n ?_
  refine wc_cond rfl (fun hb1 => ?_) (fun hb1 => ?_)
  · have hlt : i < l.length := by have := of_decide_eq_true hb1; omega
    obtain ⟨f, hf0⟩ : ∃ f, l[i]? = some f := ⟨_, List.getElem?_eq_getElem hlt⟩
    have hf' : (mix l i)[((i : Int)).toNat]? = some f := by rw [Int.toNat_natCast]; exact mix_get hf0
    have hF := fill_get hf0
    have hset := mix_set hf0
    refine wc_skip ?_
    refine seq_n ?_
    refine wc_seq ?_
    refine wc_block ?_
    refine wc_seq ?_
    refine wc_seq ?_
    refine wc_region ?_
    refine reg_quiet rfl (step_C tab_ok (fun K hk => hk)) ?_
    refine reg_quiet rfl (step_C tab_ok (fun K hk => hk)) ?_
    refine reg_quiet rfl (index_own tab_ok rfl rfl rfl rfl rfl (by omega) (by omega)) ?_
    refine reg_quiet rfl (step_C tab_ok (fun K hk => hk)) ?_
    refine reg_quiet rfl (load_row (v := .d (bo f.used)) tab_ok rfl rfl ⟨rfl, f, hf', bo f.used, rfl, rfl⟩ rfl) ?_
    refine reg_quiet rfl (step_C tab_ok (fun K hk => hk)) ?_
    refine reg_nil ?_
    refine seq_n ?_
    refine wc_cond rfl (fun hu => ?_) (fun hu => ?_)
    · have hu' : f.used = false := by simpa using hu
      obtain ⟨g, hg⟩ : ∃ g, oneF 1 i = g := ⟨_, rfl⟩
      rw [fillF, if_neg (by simp [hu']), hg] at hset hF
      have hg' : ((mix l i).set ((i : Int)).toNat (oneF 1 i))[((i : Int)).toNat]? = some g := by
        rw [Int.toNat_natCast, hg, List.getElem?_set, if_pos rfl, if_pos (by rw [mix_len hi]; exact hlt)]
      have hev := evI_bound g
      have hoth : othK (fill l) kk (i + 1) = othK (fill l) kk i + (if i ≠ kk ∧ g.ref = false then (if evB g = true then 1 else 0) else 0) := by simp only [othK, hF]
      refine wc_region ?_
      refine reg_quiet rfl (step_C tab_ok (fun K hk => hk)) ?_
      refine reg_quiet rfl (step_C tab_ok (fun K hk => hk)) ?_
      refine reg_quiet rfl (step_C tab_ok (fun K hk => hk)) ?_
      refine reg_quiet rfl (call_r (one_is _ _) rfl rfl (arg_e (arg_e arg_nil)) (.inl rfl) (fun _ => rfl)) ?_
      refine reg_quiet rfl (index_own tab_ok rfl rfl rfl rfl rfl (by omega) (by omega)) ?_
      refine reg_store (store_row tab_ok rfl rfl rfl ⟨rfl, f, oneF 1 i, by assumption, ⟨rfl, rfl, rfl⟩, rfl⟩ rfl) ?_
      refine reg_nil ?_
      refine seq_n ?_
      refine wc_seq_cut 53 (.bool (!decide ((i : Int) = (kk : Int)) && !g.ref)) _ rfl ?_ ?_
      · refine reg_quiet rfl (step_C tab_ok (fun K hk => hk)) ?_
        refine reg_quiet rfl (step_C tab_ok (fun K hk => hk)) ?_
        refine reg_quiet rfl (step_C tab_ok (fun K hk => hk)) ?_
        refine reg_quiet rfl (step_C tab_ok (fun K hk => hk)) ?_
        refine reg_split rfl rfl rfl (fun hb => ?_) (fun hb => ?_)
        refine reg_on rfl rfl (by assumption) ?_
        refine reg_quiet rfl (step_C tab_ok (fun K hk => hk)) ?_
        refine reg_on rfl rfl (by assumption) ?_
        refine reg_quiet rfl (step_C tab_ok (fun K hk => hk)) ?_
        refine reg_on rfl rfl (by assumption) ?_
        refine reg_quiet rfl (index_own tab_ok rfl rfl rfl rfl rfl (by omega) (by omega)) ?_
        refine reg_on rfl rfl (by assumption) ?_
        refine reg_quiet rfl (step_C tab_ok (fun K hk => hk)) ?_
        refine reg_on rfl rfl (by assumption) ?_
        refine reg_quiet rfl (load_row (v := .d (bo g.ref)) tab_ok rfl rfl ⟨rfl, g, hg', bo g.ref, rfl, rfl⟩ rfl) ?_
        refine reg_on rfl rfl (by assumption) ?_
        refine reg_quiet rfl (step_C tab_ok (fun K hk => hk)) ?_
        refine reg_quiet rfl (pick_T tab_ok rfl (by assumption) rfl) ?_
        rotate_left
        refine reg_skip rfl rfl (by assumption) rfl rfl ?_
        refine reg_skip rfl rfl (by assumption) rfl rfl ?_
        refine reg_skip rfl rfl (by assumption) rfl rfl ?_
        refine reg_skip rfl rfl (by assumption) rfl rfl ?_
        refine reg_skip rfl rfl (by assumption) rfl rfl ?_
        refine reg_skip rfl rfl (by assumption) rfl rfl ?_
        refine reg_quiet rfl (pick_F tab_ok rfl (by assumption) rfl) ?_
        rotate_left
        all_goals refine reg_cut 11 rfl rfl rfl rfl rfl rfl rfl rfl rfl (AVLe.of_eq ?_)
        all_goals (first | rfl | (simp_all; done) | (simp_all; omega))
      refine wc_cond rfl (fun hq => ?_) (fun hq => ?_)
      · skip
        have hoth2 : othK (fill l) kk (i + 1) = othK (fill l) kk i + (if evB g = true then 1 else 0) := by rw [hoth, if_pos (by simp only [Bool.and_eq_true, Bool.not_eq_true', decide_eq_false_iff_not] at hq; exact ⟨by omega, hq.2⟩)]
        refine wc_region ?_
        refine reg_quiet rfl (step_C tab_ok (fun K hk => hk)) ?_
        refine reg_quiet rfl (step_C tab_ok (fun K hk => hk)) ?_
        refine reg_quiet rfl (step_C tab_ok (fun K hk => hk)) ?_
        refine reg_quiet rfl (index_own tab_ok rfl rfl rfl rfl rfl (by omega) (by omega)) ?_
        refine reg_quiet rfl (load_row tab_ok rfl rfl ⟨rfl, _, by assumption, _, rfl, rfl⟩ rfl) ?_
        refine reg_quiet rfl (call_r (ev_is _) rfl rfl (arg_e arg_nil) (.inl rfl) (fun _ => rfl)) ?_
        refine reg_quiet rfl (add_int tab_ok rfl rfl (wrap_i64 (by omega) (by omega))) ?_
        refine reg_quiet rfl (step_C tab_ok (fun K hk => hk)) ?_
        refine reg_nil ?_
        refine blk_n ?_
        refine seq_n ?_
        refine wc_region ?_
        refine reg_quiet rfl (step_C tab_ok (fun K hk => hk)) ?_
        refine reg_quiet rfl (add_int tab_ok rfl rfl (wrap_i64 (by omega) (by omega))) ?_
        refine reg_quiet rfl (step_C tab_ok (fun K hk => hk)) ?_
        refine reg_nil ?_
        refine loop_n (i + 1) [] hlt (by omega) ?_
        exact .of rfl rfl rfl rfl rfl ⟨⟨_, rfl, .refl _⟩, rfl, ⟨_, rfl, .of_eq (by rw [hoth2]; rfl)⟩, rfl, ⟨_, rfl, .refl _⟩, rfl, ⟨_, rfl, .refl _⟩, rfl, ⟨_, rfl, .refl _⟩, rfl, trivial⟩ ⟨⟨rfl, rfl, _, rfl, .of_eq (by rw [← hset, ← hg]; rfl)⟩, trivial⟩
      · skip
        have hoth2 : othK (fill l) kk (i + 1) = othK (fill l) kk i := by rw [hoth, if_neg (by rintro ⟨h1, h2⟩; simp [h2] at hq; omega)]; simp
        refine wc_skip ?_
        refine blk_n ?_
        refine seq_n ?_
        refine wc_region ?_
        refine reg_quiet rfl (step_C tab_ok (fun K hk => hk)) ?_
        refine reg_quiet rfl (add_int tab_ok rfl rfl (wrap_i64 (by omega) (by omega))) ?_
        refine reg_quiet rfl (step_C tab_ok (fun K hk => hk)) ?_
        refine reg_nil ?_
        refine loop_n (i + 1) [] hlt (by omega) ?_
        exact .of rfl rfl rfl rfl rfl ⟨⟨_, rfl, .refl _⟩, rfl, ⟨_, rfl, .of_eq (by rw [hoth2]; rfl)⟩, rfl, ⟨_, rfl, .refl _⟩, rfl, ⟨_, rfl, .refl _⟩, rfl, ⟨_, rfl, .refl _⟩, rfl, trivial⟩ ⟨⟨rfl, rfl, _, rfl, .of_eq (by rw [← hset, ← hg]; rfl)⟩, trivial⟩
    · have hu' : f.used = true := by simpa using hu
      have hkeep := mix_keep hf0 hu'
      obtain ⟨g, hg⟩ : ∃ g, f = g := ⟨_, rfl⟩
      rw [fillF, if_pos hu', hg] at hF
      have hg' : (mix l i)[((i : Int)).toNat]? = some g := by rw [← hg]; exact hf'
      have hev := evI_bound g
      have hoth : othK (fill l) kk (i + 1) = othK (fill l) kk i + (if i ≠ kk ∧ g.ref = false then (if evB g = true then 1 else 0) else 0) := by simp only [othK, hF]
      refine wc_skip ?_
      refine seq_n ?_
      refine wc_seq_cut 53 (.bool (!decide ((i : Int) = (kk : Int)) && !g.ref)) _ rfl ?_ ?_
      · refine reg_quiet rfl (step_C tab_ok (fun K hk => hk)) ?_
        refine reg_quiet rfl (step_C tab_ok (fun K hk => hk)) ?_
        refine reg_quiet rfl (step_C tab_ok (fun K hk => hk)) ?_
        refine reg_quiet rfl (step_C tab_ok (fun K hk => hk)) ?_
        refine reg_split rfl rfl rfl (fun hb => ?_) (fun hb => ?_)
        refine reg_on rfl rfl (by assumption) ?_
        refine reg_quiet rfl (step_C tab_ok (fun K hk => hk)) ?_
        refine reg_on rfl rfl (by assumption) ?_
        refine reg_quiet rfl (step_C tab_ok (fun K hk => hk)) ?_
        refine reg_on rfl rfl (by assumption) ?_
        refine reg_quiet rfl (index_own tab_ok rfl rfl rfl rfl rfl (by omega) (by omega)) ?_
        refine reg_on rfl rfl (by assumption) ?_
        refine reg_quiet rfl (step_C tab_ok (fun K hk => hk)) ?_
        refine reg_on rfl rfl (by assumption) ?_
        refine reg_quiet rfl (load_row (v := .d (bo g.ref)) tab_ok rfl rfl ⟨rfl, g, hg', bo g.ref, rfl, rfl⟩ rfl) ?_
        refine reg_on rfl rfl (by assumption) ?_
        refine reg_quiet rfl (step_C tab_ok (fun K hk => hk)) ?_
        refine reg_quiet rfl (pick_T tab_ok rfl (by assumption) rfl) ?_
        rotate_left
        refine reg_skip rfl rfl (by assumption) rfl rfl ?_
        refine reg_skip rfl rfl (by assumption) rfl rfl ?_
        refine reg_skip rfl rfl (by assumption) rfl rfl ?_
        refine reg_skip rfl rfl (by assumption) rfl rfl ?_
        refine reg_skip rfl rfl (by assumption) rfl rfl ?_
        refine reg_skip rfl rfl (by assumption) rfl rfl ?_
        refine reg_quiet rfl (pick_F tab_ok rfl (by assumption) rfl) ?_
        rotate_left
        all_goals refine reg_cut 11 rfl rfl rfl rfl rfl rfl rfl rfl rfl (AVLe.of_eq ?_)
        all_goals (first | rfl | (simp_all; done) | (simp_all; omega))
      refine wc_cond rfl (fun hq => ?_) (fun hq => ?_)
      · skip
        have hoth2 : othK (fill l) kk (i + 1) = othK (fill l) kk i + (if evB g = true then 1 else 0) := by rw [hoth, if_pos (by simp only [Bool.and_eq_true, Bool.not_eq_true', decide_eq_false_iff_not] at hq; exact ⟨by omega, hq.2⟩)]
        refine wc_region ?_
        refine reg_quiet rfl (step_C tab_ok (fun K hk => hk)) ?_
        refine reg_quiet rfl (step_C tab_ok (fun K hk => hk)) ?_
        refine reg_quiet rfl (step_C tab_ok (fun K hk => hk)) ?_
        refine reg_quiet rfl (index_own tab_ok rfl rfl rfl rfl rfl (by omega) (by omega)) ?_
        refine reg_quiet rfl (load_row tab_ok rfl rfl ⟨rfl, _, by assumption, _, rfl, rfl⟩ rfl) ?_
        refine reg_quiet rfl (call_r (ev_is _) rfl rfl (arg_e arg_nil) (.inl rfl) (fun _ => rfl)) ?_
        refine reg_quiet rfl (add_int tab_ok rfl rfl (wrap_i64 (by omega) (by omega))) ?_
        refine reg_quiet rfl (step_C tab_ok (fun K hk => hk)) ?_
        refine reg_nil ?_
        refine blk_n ?_
        refine seq_n ?_
        refine wc_region ?_
        refine reg_quiet rfl (step_C tab_ok (fun K hk => hk)) ?_
        refine reg_quiet rfl (add_int tab_ok rfl rfl (wrap_i64 (by omega) (by omega))) ?_
        refine reg_quiet rfl (step_C tab_ok (fun K hk => hk)) ?_
        refine reg_nil ?_
        refine loop_n (i + 1) [] hlt (by omega) ?_
        exact .of rfl rfl rfl rfl rfl ⟨⟨_, rfl, .refl _⟩, rfl, ⟨_, rfl, .of_eq (by rw [hoth2]; rfl)⟩, rfl, ⟨_, rfl, .refl _⟩, rfl, ⟨_, rfl, .refl _⟩, rfl, ⟨_, rfl, .refl _⟩, rfl, trivial⟩ ⟨⟨rfl, rfl, _, rfl, .of_eq (by rw [← hkeep]; rfl)⟩, trivial⟩
      · skip
        have hoth2 : othK (fill l) kk (i + 1) = othK (fill l) kk i := by rw [hoth, if_neg (by rintro ⟨h1, h2⟩; simp [h2] at hq; omega)]; simp
        refine wc_skip ?_
        refine blk_n ?_
        refine seq_n ?_
        refine wc_region ?_
        refine reg_quiet rfl (step_C tab_ok (fun K hk => hk)) ?_
        refine reg_quiet rfl (add_int tab_ok rfl rfl (wrap_i64 (by omega) (by omega))) ?_
        refine reg_quiet rfl (step_C tab_ok (fun K hk => hk)) ?_
        refine reg_nil ?_
        refine loop_n (i + 1) [] hlt (by omega) ?_
        exact .of rfl rfl rfl rfl rfl ⟨⟨_, rfl, .refl _⟩, rfl, ⟨_, rfl, .of_eq (by rw [hoth2]; rfl)⟩, rfl, ⟨_, rfl, .refl _⟩, rfl, ⟨_, rfl, .refl _⟩, rfl, ⟨_, rfl, .refl _⟩, rfl, trivial⟩ ⟨⟨rfl, rfl, _, rfl, .of_eq (by rw [← hkeep]; rfl)⟩, trivial⟩
  · have he : i = l.length := by have := of_decide_eq_false hb1; omega
    subst he
    obtain ⟨fk, hfk⟩ : ∃ fk, (fill l)[kk]? = some fk := ⟨_, List.getElem?_eq_getElem (by rw [fill_len]; exact hkl)⟩
    have hfk' : (mix l l.length)[((kk : Int)).toNat]? = some fk := by rw [Int.toNat_natCast, mix_full]; exact hfk
    refine wc_exit ?_
    refine seq_x ?_
    refine loop_x ?_
    refine blk_x ?_
    refine seq_n ?_
    refine wc_seq ?_
    refine wc_seq_cut 70 (.bool (decide (othK (fill l) kk l.length = 0) || decide ((if evB fk = true then (1 : Int) else 0) = 0))) _ rfl ?_ ?_
    · refine reg_quiet rfl (step_C tab_ok (fun K hk => hk)) ?_
      refine reg_quiet rfl (step_C tab_ok (fun K hk => hk)) ?_
      refine reg_quiet rfl (step_C tab_ok (fun K hk => hk)) ?_
      refine reg_split rfl rfl rfl (fun hb => ?_) (fun hb => ?_)
      refine reg_on rfl rfl (by assumption) ?_
      refine reg_quiet rfl (step_C tab_ok (fun K hk => hk)) ?_
      refine reg_on rfl rfl (by assumption) ?_
      refine reg_quiet rfl (step_C tab_ok (fun K hk => hk)) ?_
      refine reg_on rfl rfl (by assumption) ?_
      refine reg_quiet rfl (index_own tab_ok rfl rfl rfl rfl rfl (by omega) (by omega)) ?_
      refine reg_on rfl rfl (by assumption) ?_
      refine reg_quiet rfl (load_row tab_ok rfl rfl ⟨rfl, _, by assumption, _, rfl, rfl⟩ rfl) ?_
      refine reg_on rfl rfl (by assumption) ?_
      refine reg_quiet rfl (call_r (ev_is _) rfl rfl (arg_e arg_nil) (.inl rfl) (fun _ => rfl)) ?_
      refine reg_on rfl rfl (by assumption) ?_
      refine reg_quiet rfl (step_C tab_ok (fun K hk => hk)) ?_
      refine reg_quiet rfl (pick_F tab_ok rfl (by assumption) rfl) ?_
      rotate_left
      refine reg_skip rfl rfl (by assumption) rfl rfl ?_
      refine reg_skip rfl rfl (by assumption) rfl rfl ?_
      refine reg_skip rfl rfl (by assumption) rfl rfl ?_
      refine reg_skip rfl rfl (by assumption) rfl rfl ?_
      refine reg_skip rfl rfl (by assumption) rfl rfl ?_
      refine reg_skip rfl rfl (by assumption) rfl rfl ?_
      refine reg_quiet rfl (pick_T tab_ok rfl (by assumption) rfl) ?_
      rotate_left
      all_goals refine reg_cut 10 rfl rfl rfl rfl rfl rfl rfl rfl rfl (AVLe.of_eq ?_)
      all_goals (first | rfl | (simp_all; done) | (simp_all; omega))
    refine wc_cond rfl (fun hq => ?_) (fun hq => ?_)
    · refine wc_seq ?_
      refine wc_region ?_
      refine reg_quiet rfl (call_r lives_is rfl rfl arg_nil (.inl rfl) (fun _ => rfl)) ?_
      refine reg_quiet rfl (step_C tab_ok (fun K hk => hk)) ?_
      refine reg_nil ?_
      refine seq_n ?_
      refine wc_ret ?_
      refine seq_r ?_
      exact ⟨trivial, [], .of rfl rfl rfl rfl rfl ⟨⟨_, rfl, AVLe.of_eq rfl⟩, rfl, trivial⟩ trivial⟩
    · rw [Bool.or_eq_false_iff] at hq
      have ho0 : othK (fill l) kk l.length ≠ 0 := of_decide_eq_false hq.1
      have hfe : evB fk = true := by cases h : evB fk <;> simp_all
      obtain ⟨j, fj, hjk, hj, hjr, hje⟩ := oth_some (fill l) kk l.length ho0
      obtain ⟨G, hG⟩ : ∃ G, (mix l l.length).set ((kk : Int)).toNat { fk with ref := true } = G := ⟨_, rfl⟩
      have hG2 : G = (fill l).set kk { fk with ref := true } := by rw [← hG, mix_full]; rfl
      have hGlen : G.length = l.length := by rw [hG2, List.length_set, fill_len]
      have hGl : l.length = ((mix l l.length).set ((kk : Int)).toNat { fk with ref := true }).length := by rw [hG, hGlen]
      have hGu : (G.any fun f => !f.used) = false := by
        rw [List.any_eq_false]
        intro x hx
        rw [hG2] at hx
        rcases List.mem_or_eq_of_mem_set hx with h | rfl
        · exact List.any_eq_false.1 fill_used x h
        · have := List.any_eq_false.1 (fill_used (l := l)) fk (List.mem_of_getElem? hfk)
          simpa using this
      have hGk : G[kk]? = some { fk with ref := true } := by rw [hG2, List.getElem?_set, if_pos rfl, if_pos (by rw [fill_len]; exact hkl)]
      have hGj : G[j]? = some fj := by rw [hG2, List.getElem?_set, if_neg (fun e => hjk e.symm)]; exact hj
      have hGx : (G.any fun f => !f.used || evB f) = true := any_hit hGj (by simp [hje])
      have hV := victim_ok G hN (by omega) (by omega) hGx
      have hne : (!decide (vAt G hN = (kk : Int))) = true := by
        have := ref_law (hand := hN) hGu hGk rfl hGj hjk hjr hje
        simpa using this
      rw [show i6 (hN : Int) = i6 (hand.tmod (l.length : Int)) by rw [hhN], ← hG] at hV
      rw [← hG] at hne
      refine wc_skip ?_
      refine seq_n ?_
      refine wc_seq ?_
      refine wc_region ?_
      refine reg_quiet rfl (step_C tab_ok (fun K hk => hk)) ?_
      refine reg_quiet rfl (step_C tab_ok (fun K hk => hk)) ?_
      refine reg_quiet rfl (index_own tab_ok rfl rfl rfl rfl rfl (by omega) (by omega)) ?_
      refine reg_quiet rfl (step_C tab_ok (fun K hk => hk)) ?_
      refine reg_store (store_row tab_ok rfl rfl rfl ⟨rfl, fk, { fk with ref := true }, by assumption, ⟨_, ⟨rfl, rfl, rfl⟩, rfl⟩, rfl⟩ rfl) ?_
      refine reg_nil ?_
      refine seq_n ?_
      refine wc_seq ?_
      refine wc_region ?_
      refine reg_quiet rfl (step_C tab_ok (fun K hk => hk)) ?_
      refine reg_quiet rfl (step_C tab_ok (fun K hk => hk)) ?_
      refine reg_quiet rfl (conv_int tab_ok rfl rfl rfl (wrap_i64 (by omega) (by omega))) ?_
      refine reg_quiet rfl (step_C tab_ok (fun K hk => hk)) ?_
      refine reg_quiet rfl (len_own tab_ok rfl rfl) ?_
      refine reg_quiet rfl (rem_int tab_ok rfl rfl (by omega)) ?_
      refine reg_new (call_new hV rfl rfl (arg_ownL rfl hGl (arg_e arg_nil)) (.inr (victim_plain _ _ _ _ _ _)) rfl rfl) rfl ?_
      refine reg_quiet rfl (step_C tab_ok (fun K hk => hk)) ?_
      refine reg_quiet rfl (step_C tab_ok (fun K hk => hk)) ?_
      refine reg_quiet rfl (step_C tab_ok (fun K hk => hk)) ?_
      refine reg_quiet rfl (step_C tab_ok (fun K hk => hk)) ?_
      refine reg_quiet rfl (step_C tab_ok (fun K hk => hk)) ?_
      refine reg_quiet rfl (step_C tab_ok (fun K hk => hk)) ?_
      refine reg_quiet rfl (step_C tab_ok (fun K hk => hk)) ?_
      refine reg_quiet rfl (step_C tab_ok (fun K hk => hk)) ?_
      refine reg_quiet rfl (step_C tab_ok (fun K hk => hk)) ?_
      refine reg_nil ?_
      refine seq_n ?_
      refine wc_seq ?_
      refine wc_region ?_
      refine reg_quiet rfl (step_C tab_ok (fun K hk => hk)) ?_
      refine reg_quiet rfl (step_C tab_ok (fun K hk => hk)) ?_
      refine reg_quiet rfl (step_C tab_ok (fun K hk => hk)) ?_
      refine reg_on rfl rfl rfl ?_
      refine reg_quiet rfl (step_C tab_ok (fun K hk => hk)) ?_
      refine reg_on rfl rfl rfl ?_
      refine reg_quiet rfl (step_C tab_ok (fun K hk => hk)) ?_
      refine reg_on rfl rfl rfl ?_
      refine reg_quiet rfl (step_C tab_ok (fun K hk => hk)) ?_
      refine reg_quiet rfl (pick_T tab_ok rfl rfl rfl) ?_
      refine reg_quiet rfl (step_C tab_ok (fun K hk => hk)) ?_
      refine reg_on rfl rfl (by assumption) ?_
      refine reg_quiet rfl (call_r lives_is rfl rfl arg_nil (.inl rfl) (fun _ => rfl)) ?_
      refine reg_quiet rfl (pick_T tab_ok rfl (by assumption) rfl) ?_
      refine reg_quiet rfl (step_C tab_ok (fun K hk => hk)) ?_
      refine reg_nil ?_
      refine seq_n ?_
      refine wc_ret ?_
      exact ⟨trivial, [], .of rfl rfl rfl rfl rfl ⟨⟨_, rfl, AVLe.of_eq rfl⟩, rfl, trivial⟩ trivial⟩
end Go.Proofs.Ytmdfeekpehcieaa

/- FramesRef: the walked law is the statement. -/
namespace Go.Proofs.Ytmdfeekpehcieaa
open Go.ChangeShapes Go.WideShapes Go.ChangeAt Go.RowKit Go.Eng
theorem own : ownKnob Try.prog.godebug = none := by kernel_rfl
theorem laidOut : laidOutB Try.prog = true := by kernel_rfl
set_option maxRecDepth 100000 in
theorem lifted (os : Os) (started : os.Started) (H : Type) (enc : TypeId × Value → H) :
    ReturnsInHanded {} Try.checked os 5 .any (Rows.framesRefSpec.pre6 enc Try.prog Try.f5 Rows.framesRefRow.domain false) (Rows.framesRefSpec.post enc Try.prog Try.f5 false true false false) := by
  refine returnsInHanded_of_change (C := Try.checked) own started (by kernel_rfl) Try.func5
    (ChangeSpec.witness6 (enc := enc) (C := Try.checked) false ⟨#[], #[(.agg #[.slice none 0 0]), (.int .u8 0), (.int .u8 0)], []⟩ 8 (by kernel_rfl) (by kernel_rfl) (by kernel_rfl) (by kernel_rfl)) ?_
  intro W base args ds gs before hval0 hW hcnd _
  have hval : ∀ (j : Nat) t v, Try.f5.params[j]? = some t → args[j]? = some v → Value.okWide Try.prog W .any base t v := hval0
  have hW' := hW
  obtain ⟨p, q, hA0, hV, rfl, hfz, hnd⟩ := hW
  have hA : DataW.TrodAll enc Try.prog W 0 (fun _ => true) true Try.f5.params.toList args.toList ds p := hA0
  rw [Try.params5] at hA hval
  obtain ⟨v0, vs0, d0, ds0, p0, q0, hargs, rfl, rfl, h0, r0⟩ := trodAll_cons hA
  obtain ⟨v1, vs1, d1, ds1, p1, q1, rfl, rfl, rfl, h1, r1⟩ := trodAll_cons r0
  obtain ⟨v2, vs2, d2, ds2, p2, q2, rfl, rfl, rfl, h2, r2⟩ := trodAll_cons r1
  obtain ⟨rfl, rfl, rfl⟩ := trodAll_nil r2
  obtain rfl : args = #[v0, v1, v2] := Array.ext' (by simpa using hargs)
  obtain ⟨rfl, rfl⟩ := trodVars_none hV
  have k0 := h0
  have lt0 : ∀ x ∈ p0, x.block < W.heap.size := by obtain ⟨m, hm⟩ := k0; exact DataW.trod_lt m _ _ _ hm
  obtain ⟨fuel0, hfu0⟩ := h0
  obtain ⟨x0, e0, _, w0⟩ := opens_F H enc W _ _ fuel0 _ _ hfu0
  obtain ⟨cs0, hcs0, _⟩ := okWide_struct Try.underlying44 (hval 0 44 v0 rfl rfl)
  have rel0 : RelV (fun _ => none) W (fun _ => False) (.d (encF x0)) v0 := e0.relV ⟨fun _ => rfl, fun _ => ⟨cs0, hcs0⟩⟩
  have k1 := h1
  have lt1 : ∀ x ∈ p1, x.block < W.heap.size := by obtain ⟨m, hm⟩ := k1; exact DataW.trod_lt m _ _ _ hm
  obtain ⟨x1, e1, _, w1⟩ : ∃ m : Int, Enc W (fun _ => False) (.sc (.int .u8 m)) v1.cells.toList ∧ v1.cells.toList.length = 1 ∧ (Lit.int .u8 m).wf = true := by obtain ⟨fuel, hfu⟩ := h1; exact opens_int (P := Try.prog) Try.underlying5 H enc W _ _ fuel _ _ hfu
  obtain ⟨m1, hcs1⟩ := okWide_int Try.underlying5 (hval 1 5 v1 rfl rfl)
  have rel1 : RelV (fun _ => none) W (fun _ => False) (.d (.sc (.int .u8 x1))) v1 := e1.relV ⟨fun ⟨c, hc⟩ => (by rw [hcs1] at hc; cases hc), fun hc => (by cases hc)⟩
  have k2 := h2
  have lt2 : ∀ x ∈ p2, x.block < W.heap.size := by obtain ⟨m, hm⟩ := k2; exact DataW.trod_lt m _ _ _ hm
  obtain ⟨x2, e2, _, w2⟩ : ∃ m : Int, Enc W (fun _ => False) (.sc (.int .u8 m)) v2.cells.toList ∧ v2.cells.toList.length = 1 ∧ (Lit.int .u8 m).wf = true := by obtain ⟨fuel, hfu⟩ := h2; exact opens_int (P := Try.prog) Try.underlying5 H enc W _ _ fuel _ _ hfu
  obtain ⟨m2, hcs2⟩ := okWide_int Try.underlying5 (hval 2 5 v2 rfl rfl)
  have rel2 : RelV (fun _ => none) W (fun _ => False) (.d (.sc (.int .u8 x2))) v2 := e2.relV ⟨fun ⟨c, hc⟩ => (by rw [hcs2] at hc; cases hc), fun hc => (by cases hc)⟩
  clear hA0 hval0
  refine (law_calls (framesRef_is x0 (bytes_of w0) x1 x2 (u8_of w1) (u8_of w2)) (W := W) (args := #[v0, v1, v2]) ⟨v0, [v1, v2], rfl, ⟨rel0, trivial⟩, ⟨v1, [v2], rfl, ⟨rel1, trivial⟩, ⟨v2, [], rfl, ⟨rel2, trivial⟩, rfl⟩⟩⟩).mono fun e W' ⟨he, bel⟩ => ?_
  subst he
  exact ⟨_, rfl, _, _, _, [], _, [], hW', trodAll_mk1 (shut_bool Try.underlying4 _), (trodAll_cons_mk (Below.trod laidOut (by kernel_rfl) (of_decide_eq_true (by kernel_rfl)) k0 bel lt0) (trodAll_cons_mk (Below.trod laidOut (by kernel_rfl) (of_decide_eq_true (by kernel_rfl)) k1 bel lt1) (trodAll_cons_mk (Below.trod laidOut (by kernel_rfl) (of_decide_eq_true (by kernel_rfl)) k2 bel lt2) trodAll_mk0))), rfl, bel.frame _, fun h => by cases h⟩

theorem over : Rows.framesRefRow.holds Try.pinned (OpenSpec.ofChange Rows.framesRefSpec) :=
  OpenClaim.holds_of_wide 5 Try.f5 rfl rfl rfl rfl rfl rfl rfl ⟨rfl, rfl, rfl, rfl, rfl⟩ rfl rfl rfl rfl rfl (by kernel_rfl) Try.func5 (by kernel_rfl)
    (of_decide_eq_true (by kernel_rfl)) (by unfold Func.isWrapper; first | (rw [if_pos (by decide +kernel)]; kernel_rfl) | (rw [if_neg (by decide +kernel)]; exact ⟨rfl, rfl⟩))
    (fun os started H enc _ => lifted os started H enc)
theorem framesRef_holds : Rows.FramesRefSaid := over
end Go.Proofs.Ytmdfeekpehcieaa
