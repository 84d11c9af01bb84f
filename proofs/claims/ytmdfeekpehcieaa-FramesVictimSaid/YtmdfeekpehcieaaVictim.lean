/- FramesVictim holds for every list and every hand. -/
import Derived.Test.YtmdfeekpehcieaaFB
import Derived.Test.YtmdfeekpehcieaaRows

set_option linter.unusedVariables false
set_option linter.unusedSimpArgs false

/- The victim of the definition. -/
namespace Go.Proofs.Ytmdfeekpehcieaa
open Go.Eng
set_option maxHeartbeats 1000000
attribute [local irreducible] WC RegS RegD SeqQ BlkQ ScoQ RegK CutK Sat SatN FnIs LoopQ StepIs OpIs
abbrev tup3 (a b c : AV) : AV := .tup (.acons a (.acons b (.acons c .anil)))
theorem refvictim_is (l : List Frame) (hand : Nat) (hlen : l.length ≤ 1000000) (hh : hand < l.length) (hx : (l.any fun f => !f.used || evB f) = true) :
    FnIs Try.prog 19 [.d (.arr 40 encFrame l), .d (i6 hand)] [] (tup3 (.int .i64 (vAt l hand)) (.own 64 0 (vNext l hand).length 40 none) (.int .i64 (vAfter l hand))) [(64, .ds 39 40 false encFrame (vNext l hand))] := by
  refine fnIs_of tab_ok Try.func19 rfl rfl rfl ?_
  refine wc_seq ?_
  refine wc_region ?_
  refine reg_quiet rfl (step_C tab_ok (fun K hk => hk)) ?_
  refine reg_quiet rfl (step_C tab_ok (fun K hk => hk)) ?_
  refine reg_quiet rfl (step_C tab_ok (fun K hk => hk)) ?_
  refine reg_nil ?_
  refine seq_n ?_
  refine wc_seq ?_
  refine wc_region ?_
  refine reg_quiet rfl (step_C tab_ok (fun K hk => hk)) ?_
  refine reg_nil ?_
  refine seq_n ?_
  refine wc_seq ?_
  refine wc_seq ?_
  refine wc_region ?_
  refine reg_quiet rfl (step_C tab_ok (fun K hk => hk)) ?_
  refine reg_nil ?_
  refine seq_n ?_
  refine wc_block ?_
  refine wc_inv (fun i : Nat => ⟨[(8, .int .i64 i), (7, .own 64 0 (l.take i).length 40 none), (0, .d (.arr 40 encFrame l)), (1, .int .i64 hand)], [(64, some (.ds 39 40 false encFrame (l.take i)))], 72, Try.f19.ntmps, 64⟩) (fun i => i ≤ l.length) (fun i => l.length - i) 0 [(64, none)] (Nat.zero_le _)
    (.of rfl rfl rfl rfl rfl ⟨⟨_, rfl, .refl _⟩, rfl, ⟨_, rfl, .refl _⟩, rfl, ⟨_, rfl, .refl _⟩, rfl, ⟨_, rfl, .refl _⟩, rfl, trivial⟩ ⟨⟨rfl, rfl, rfl⟩, trivial⟩) ?_
  intro i hi
  refine wc_of ?_
  refine wc_seq ?_
  refine wc_seq ?_
  refine wc_region ?_
  refine reg_quiet rfl (step_C tab_ok (fun K hk => hk)) ?_
  refine reg_quiet rfl (step_C tab_ok (fun K hk => hk)) ?_
  refine reg_quiet rfl (len_arr tab_ok rfl rfl) ?_
  refine reg_quiet rfl (step_C tab_ok (fun K hk => hk)) ?_
  refine reg_nil ?_
  refine seq_n ?_
  refine wc_cond rfl (fun hb => ?_) (fun hb => ?_)
  · have hlt : i < l.length := by have := of_decide_eq_true hb; omega
    obtain ⟨f, hf⟩ : ∃ f, l[i]? = some f := ⟨_, List.getElem?_eq_getElem hlt⟩
    have hf' : l[((i : Int)).toNat]? = some f := by rw [Int.toNat_natCast]; exact hf
    have hlen3 : (l.take i).length + 1 ≤ 1048576 := by simp only [List.length_take]; omega
    have ht : l.take (i + 1) = l.take i ++ [f] := by rw [List.take_add_one, hf]; rfl
    have htl : (l.take (i + 1)).length = (l.take i).length + 1 := by rw [ht, List.length_append (bs := [_])]; rfl
    refine wc_skip ?_
    refine seq_n ?_
    refine wc_seq ?_
    refine wc_block ?_
    refine wc_region ?_
    refine reg_quiet rfl (step_C tab_ok (fun K hk => hk)) ?_
    refine reg_quiet rfl (step_C tab_ok (fun K hk => hk)) ?_
    refine reg_quiet rfl (step_C tab_ok (fun K hk => hk)) ?_
    refine reg_quiet rfl (index_arr tab_ok rfl rfl rfl rfl rfl (by omega) (by assumption)) ?_
    refine reg_quiet rfl (load_i tab_ok rfl rfl) ?_
    refine reg_new (build_slice tab_ok rfl rfl rfl rfl rfl rfl rfl rfl) rfl ?_
    refine reg_new2 (append_one (s := 40) tab_ok f rfl rfl rfl rfl rfl rfl rfl rfl rfl hlen3 rfl) rfl ?_
    refine reg_quiet rfl (step_C tab_ok (fun K hk => hk)) ?_
    refine reg_nil ?_
    refine blk_n ?_
    refine seq_n ?_
    refine wc_region ?_
    refine reg_quiet rfl (step_C tab_ok (fun K hk => hk)) ?_
    refine reg_quiet rfl (add_int tab_ok rfl rfl (wrap_i64 (by omega) (by omega))) ?_
    refine reg_quiet rfl (step_C tab_ok (fun K hk => hk)) ?_
    refine reg_nil ?_
    refine loop_n (i + 1) [(64, some 152)] hlt (by omega) ?_
    exact .of rfl rfl rfl rfl rfl ⟨⟨_, rfl, .refl _⟩, rfl, ⟨_, rfl, .of_eq (by rw [htl]; rfl)⟩, rfl, ⟨_, rfl, .refl _⟩, rfl, ⟨_, rfl, .refl _⟩, rfl, trivial⟩ ⟨⟨rfl, rfl, _, rfl, .of_eq (by rw [ht]; rfl)⟩, trivial⟩
  · have he : i = l.length := by have := of_decide_eq_false hb; omega
    subst he
    have htake : l.take l.length = l := List.take_length
    refine wc_exit ?_
    refine seq_x ?_
    refine loop_x ?_
    refine blk_x ?_
    refine seq_n ?_
    refine wc_seq ?_
    refine wc_seq ?_
    refine wc_region ?_
    refine reg_quiet rfl (step_C tab_ok (fun K hk => hk)) ?_
    refine reg_quiet rfl (call_r (unused_is l hlen) rfl rfl (arg_e arg_nil) (.inl rfl) (fun _ => rfl)) ?_
    refine reg_quiet rfl (step_C tab_ok (fun K hk => hk)) ?_
    refine reg_nil ?_
    refine seq_n ?_
    refine wc_cond rfl (fun hu => ?_) (fun hu => ?_)
    · have hu' : (l.any fun f => !f.used) = true := by rw [← fidx_any]; exact hu
      refine wc_seq ?_
      refine wc_region ?_
      refine reg_quiet rfl (step_C tab_ok (fun K hk => hk)) ?_
      refine reg_quiet rfl (call_r (unused_is l hlen) rfl rfl (arg_e arg_nil) (.inl rfl) (fun _ => rfl)) ?_
      refine reg_quiet rfl (step_C tab_ok (fun K hk => hk)) ?_
      refine reg_quiet rfl (step_C tab_ok (fun K hk => hk)) ?_
      refine reg_quiet rfl (step_C tab_ok (fun K hk => hk)) ?_
      refine reg_quiet rfl (step_C tab_ok (fun K hk => hk)) ?_
      refine reg_quiet rfl (step_C tab_ok (fun K hk => hk)) ?_
      refine reg_nil ?_
      refine seq_n ?_
      refine wc_ret ?_
      refine seq_r ?_
      refine ⟨trivial, [], .of rfl rfl rfl rfl rfl ⟨⟨_, rfl, AVLe.of_eq ?_⟩, rfl, trivial⟩ ⟨⟨rfl, rfl, _, rfl, .of_eq ?_⟩, trivial⟩⟩
      · rw [htake]; simp only [vAt, vNext, vAfter, hu', if_true]; rfl
      · rw [htake]; simp only [vNext, hu', if_true]; rfl
    · have hu' : (l.any fun f => !f.used) = false := by rw [← fidx_any]; exact hu
      have hev : l.any evB = true := by
        obtain ⟨f, hf, hp⟩ := List.any_eq_true.1 hx
        have h2 := List.any_eq_false.1 hu' f hf
        refine List.any_eq_true.2 ⟨f, hf, ?_⟩
        cases hfu : f.used <;> simp_all
      have hmod : hand % l.length = hand := Nat.mod_eq_of_lt hh
      refine wc_skip ?_
      refine seq_n ?_
      refine wc_seq ?_
      refine wc_region ?_
      refine reg_quiet rfl (step_C tab_ok (fun K hk => hk)) ?_
      refine reg_quiet rfl (step_C tab_ok (fun K hk => hk)) ?_
      refine reg_nil ?_
      refine seq_n ?_
      refine wc_seq ?_
      refine wc_block ?_
      refine wc_inv (fun k : Nat => ⟨[(9, .int .i64 ((hand + k) % l.length : Nat)), (7, .own 64 0 l.length 40 none), (0, .d (.arr 40 encFrame l))], [(64, some (.ds 39 40 false encFrame (sweep l hand k)))], 72, Try.f19.ntmps, 64⟩) (fun k => ∀ j, j < k → stopB l hand j = false) (fun k => 2 * l.length + 1 - k) 0 [] (fun j h => absurd h (Nat.not_lt_zero _))
        (.of rfl rfl rfl rfl rfl ⟨⟨_, rfl, .of_eq (by rw [Nat.add_zero, hmod]; rfl)⟩, rfl, ⟨_, rfl, .of_eq (by rw [htake]; rfl)⟩, rfl, ⟨_, rfl, .refl _⟩, rfl, trivial⟩ ⟨⟨rfl, rfl, _, rfl, .of_eq (by rw [htake]; rfl)⟩, trivial⟩) ?_
      intro k hinv
      have hbound := clock_bound hev hinv
      obtain ⟨m, hm⟩ : ∃ m, (hand + k) % l.length = m := ⟨_, rfl⟩
      have hm1 : m < l.length := by rw [← hm]; exact Nat.mod_lt _ (by omega)
      rw [hm]
      obtain ⟨f, hf⟩ : ∃ f, (sweep l hand k)[m]? = some f := ⟨_, List.getElem?_eq_getElem (by rw [sweep_len]; exact hm1)⟩
      have hf' : (sweep l hand k)[((m : Int)).toNat]? = some f := by rw [Int.toNat_natCast]; exact hf
      have hstop : stopB l hand k = (evB f && !f.ref) := stopB_of (by rw [hm]; exact hf)
      have hsw : sweep l hand (k + 1) = if evB f = true then (sweep l hand k).set m { f with ref := false } else sweep l hand k := by
        rw [sweep, hm, bump, hf]
      have hnext : (if (m : Int) = (l.length : Int) - 1 then (0 : Int) else (m : Int) + 1) = (((m + 1) % l.length : Nat) : Int) := by
        rcases Nat.lt_or_ge (m + 1) l.length with h | h
        · rw [if_neg (by omega), Nat.mod_eq_of_lt h]; simp
        · rw [if_pos (by omega), show m + 1 = l.length by omega, Nat.mod_self]; rfl
      have hk1 : (hand + (k + 1)) % l.length = (m + 1) % l.length := by rw [← Nat.add_assoc, ← Nat.mod_add_mod, hm]
      refine wc_of ?_
      refine wc_seq ?_
      refine wc_seq_cut 43 (.bool (decide ((if evB f = true then (1 : Int) else 0) = 0) || f.ref)) _ rfl ?_ ?_
      · refine reg_quiet rfl (step_C tab_ok (fun K hk => hk)) ?_
        refine reg_quiet rfl (step_C tab_ok (fun K hk => hk)) ?_
        refine reg_quiet rfl (index_own tab_ok rfl rfl rfl rfl rfl (by omega) (by omega)) ?_
        refine reg_quiet rfl (load_row tab_ok rfl rfl ⟨rfl, _, by assumption, _, rfl, rfl⟩ rfl) ?_
        refine reg_quiet rfl (call_r (ev_is _) rfl rfl (arg_e arg_nil) (.inl rfl) (fun _ => rfl)) ?_
        refine reg_quiet rfl (step_C tab_ok (fun K hk => hk)) ?_
        refine reg_quiet rfl (step_C tab_ok (fun K hk => hk)) ?_
        refine reg_split rfl rfl rfl (fun hb => ?_) (fun hb => ?_)
        refine reg_on rfl rfl (by assumption) ?_
        refine reg_quiet rfl (step_C tab_ok (fun K hk => hk)) ?_
        refine reg_on rfl rfl (by assumption) ?_
        refine reg_quiet rfl (step_C tab_ok (fun K hk => hk)) ?_
        refine reg_on rfl rfl (by assumption) ?_
        refine reg_quiet rfl (index_own tab_ok rfl rfl rfl rfl rfl (by omega) (by omega)) ?_
        refine reg_on rfl rfl (by assumption) ?_
        refine reg_quiet rfl (step_C tab_ok (fun K hk => hk)) ?_
        refine reg_on rfl rfl (by assumption) ?_
        refine reg_quiet rfl (load_row (v := .d (bo f.ref)) tab_ok rfl rfl ⟨rfl, f, hf', bo f.ref, rfl, rfl⟩ rfl) ?_
        refine reg_quiet rfl (pick_F tab_ok rfl (by assumption) rfl) ?_
        rotate_left
        refine reg_skip rfl rfl (by assumption) rfl rfl ?_
        refine reg_skip rfl rfl (by assumption) rfl rfl ?_
        refine reg_skip rfl rfl (by assumption) rfl rfl ?_
        refine reg_skip rfl rfl (by assumption) rfl rfl ?_
        refine reg_skip rfl rfl (by assumption) rfl rfl ?_
        refine reg_quiet rfl (pick_T tab_ok rfl (by assumption) rfl) ?_
        rotate_left
        all_goals refine reg_cut 13 rfl rfl rfl rfl rfl rfl rfl rfl rfl (AVLe.of_eq ?_)
        all_goals (first | rfl | (simp_all; done) | (simp_all; omega))
      refine wc_cond rfl (fun hb3 => ?_) (fun hb3 => ?_)
      · refine wc_skip ?_
        refine seq_n ?_
        refine wc_block ?_
        refine wc_seq ?_
        refine wc_seq ?_
        refine wc_region ?_
        refine reg_quiet rfl (step_C tab_ok (fun K hk => hk)) ?_
        refine reg_quiet rfl (step_C tab_ok (fun K hk => hk)) ?_
        refine reg_quiet rfl (index_own tab_ok rfl rfl rfl rfl rfl (by omega) (by omega)) ?_
        refine reg_quiet rfl (load_row tab_ok rfl rfl ⟨rfl, _, by assumption, _, rfl, rfl⟩ rfl) ?_
        refine reg_quiet rfl (call_r (ev_is _) rfl rfl (arg_e arg_nil) (.inl rfl) (fun _ => rfl)) ?_
        refine reg_quiet rfl (step_C tab_ok (fun K hk => hk)) ?_
        refine reg_nil ?_
        refine seq_n ?_
        refine wc_cond rfl (fun hv => ?_) (fun hv => ?_)
        · have hv' : evB f = true := by cases h : evB f <;> simp_all
          have hr' : f.ref = true := by simpa [hv'] using hb3
          rw [hv'] at hsw
          rw [hv', hr'] at hstop
          refine wc_region ?_
          refine reg_quiet rfl (step_C tab_ok (fun K hk => hk)) ?_
          refine reg_quiet rfl (step_C tab_ok (fun K hk => hk)) ?_
          refine reg_quiet rfl (index_own tab_ok rfl rfl rfl rfl rfl (by omega) (by omega)) ?_
          refine reg_quiet rfl (step_C tab_ok (fun K hk => hk)) ?_
          refine reg_store (store_row tab_ok rfl rfl rfl ⟨rfl, f, { f with ref := false }, by assumption, ⟨_, ⟨rfl, rfl, rfl⟩, rfl⟩, rfl⟩ rfl) ?_
          refine reg_nil ?_
          refine seq_n ?_
          refine wc_region ?_
          refine reg_quiet rfl (step_C tab_ok (fun K hk => hk)) ?_
          refine reg_quiet rfl (step_C tab_ok (fun K hk => hk)) ?_
          refine reg_quiet rfl (len_arr tab_ok rfl rfl) ?_
          refine reg_quiet rfl (call_r (after_is m l.length (by omega) (by omega) (by omega) (by omega)) rfl rfl (arg_e (arg_e arg_nil)) (.inl rfl) (fun _ => rfl)) ?_
          refine reg_quiet rfl (step_C tab_ok (fun K hk => hk)) ?_
          refine reg_nil ?_
          refine blk_n ?_
          refine loop_n (k + 1) [] ?_ (by omega) ?_
          · intro j hj
            rcases Nat.lt_or_ge j k with h | h
            · exact hinv j h
            · rw [show j = k by omega, hstop]; rfl
          · exact .of rfl rfl rfl rfl rfl ⟨⟨_, rfl, .of_eq (by rw [hnext, hk1]; rfl)⟩, rfl, ⟨_, rfl, .refl _⟩, rfl, ⟨_, rfl, .refl _⟩, rfl, trivial⟩ ⟨⟨rfl, rfl, _, rfl, .of_eq (by rw [hsw]; rfl)⟩, trivial⟩
        · have hv' : evB f = false := by cases h : evB f <;> simp_all
          rw [hv'] at hsw hstop
          refine wc_skip ?_
          refine seq_n ?_
          refine wc_region ?_
          refine reg_quiet rfl (step_C tab_ok (fun K hk => hk)) ?_
          refine reg_quiet rfl (step_C tab_ok (fun K hk => hk)) ?_
          refine reg_quiet rfl (len_arr tab_ok rfl rfl) ?_
          refine reg_quiet rfl (call_r (after_is m l.length (by omega) (by omega) (by omega) (by omega)) rfl rfl (arg_e (arg_e arg_nil)) (.inl rfl) (fun _ => rfl)) ?_
          refine reg_quiet rfl (step_C tab_ok (fun K hk => hk)) ?_
          refine reg_nil ?_
          refine blk_n ?_
          refine loop_n (k + 1) [] ?_ (by omega) ?_
          · intro j hj
            rcases Nat.lt_or_ge j k with h | h
            · exact hinv j h
            · rw [show j = k by omega, hstop]; rfl
          · exact .of rfl rfl rfl rfl rfl ⟨⟨_, rfl, .of_eq (by rw [hnext, hk1]; rfl)⟩, rfl, ⟨_, rfl, .refl _⟩, rfl, ⟨_, rfl, .refl _⟩, rfl, trivial⟩ ⟨⟨rfl, rfl, _, rfl, .of_eq (by rw [hsw]; rfl)⟩, trivial⟩
      · have hv' : evB f = true := by cases h : evB f <;> simp_all
        have hr' : f.ref = false := by simpa [hv'] using hb3
        rw [hv', hr'] at hstop
        have hclk := clock_hit hev hinv hstop
        refine wc_exit ?_
        refine seq_x ?_
        refine loop_x ?_
        refine blk_x ?_
        refine seq_n ?_
        refine wc_seq ?_
        refine wc_region ?_
        refine reg_quiet rfl (step_C tab_ok (fun K hk => hk)) ?_
        refine reg_quiet rfl (step_C tab_ok (fun K hk => hk)) ?_
        refine reg_quiet rfl (step_C tab_ok (fun K hk => hk)) ?_
        refine reg_quiet rfl (step_C tab_ok (fun K hk => hk)) ?_
        refine reg_quiet rfl (len_arr tab_ok rfl rfl) ?_
        refine reg_quiet rfl (call_r (after_is m l.length (by omega) (by omega) (by omega) (by omega)) rfl rfl (arg_e (arg_e arg_nil)) (.inl rfl) (fun _ => rfl)) ?_
        refine reg_quiet rfl (step_C tab_ok (fun K hk => hk)) ?_
        refine reg_quiet rfl (step_C tab_ok (fun K hk => hk)) ?_
        refine reg_quiet rfl (step_C tab_ok (fun K hk => hk)) ?_
        refine reg_nil ?_
        refine seq_n ?_
        refine wc_ret ?_
        refine ⟨trivial, [], .of rfl rfl rfl rfl rfl ⟨⟨_, rfl, AVLe.of_eq ?_⟩, rfl, trivial⟩ ⟨⟨rfl, rfl, _, rfl, .of_eq ?_⟩, trivial⟩⟩
        · rw [hnext, vNext_len]; simp only [vAt, vAfter, hu', Bool.false_eq_true, if_false, hclk, hm]; rfl
        · simp only [vNext, hu', Bool.false_eq_true, if_false, hclk]; rfl
end Go.Proofs.Ytmdfeekpehcieaa

/- FramesVictim: the victim is that of the definition. -/
namespace Go.Proofs.Ytmdfeekpehcieaa
open Go.Eng
set_option maxHeartbeats 2000000
attribute [local irreducible] WC RegS RegD SeqQ BlkQ ScoQ RegK CutK Sat SatN FnIs LoopQ StepIs OpIs
theorem fidx_spec {α : Type} {p : α → Bool} {l : List α} (h : l.any p = true) : ∃ i f, fidx p l = (i : Nat) ∧ l[i]? = some f ∧ p f = true := by
  cases hx : l.findIdx? p with
  | none =>
    have := List.findIdx?_eq_none_iff.1 hx
    obtain ⟨f, hf, hp⟩ := List.any_eq_true.1 h
    rw [this f hf] at hp; cases hp
  | some i =>
    obtain ⟨hi, hp, _⟩ := List.findIdx?_eq_some_iff_getElem.1 hx
    exact ⟨i, l[i], by simp [fidx, hx], by simp [hi], hp⟩
/-- What is known of the victim. -/
theorem victim_facts {l : List Frame} {hand : Nat} (hh : hand < l.length) (hx : (l.any fun f => !f.used || evB f) = true) :
    ∃ i f g, vAt l hand = (i : Nat) ∧ i < l.length ∧ l[i]? = some f ∧ (vNext l hand)[i]? = some g ∧ (f.used = false ∨ f.used = true ∧ evB f = true ∧ g.ref = false) := by
  cases hu : l.any fun f => !f.used with
  | true =>
    obtain ⟨i, f, h1, h2, h3⟩ := fidx_spec hu
    refine ⟨i, f, f, by simp only [vAt, hu, if_true, h1], (List.getElem?_eq_some_iff.1 h2).1, h2, by simp only [vNext, hu, if_true, h2], .inl (by simpa using h3)⟩
  | false =>
    have hev : l.any evB = true := by
      obtain ⟨f, hf, hp⟩ := List.any_eq_true.1 hx
      have h2 := List.any_eq_false.1 hu f hf
      refine List.any_eq_true.2 ⟨f, hf, ?_⟩
      cases hfu : f.used <;> simp_all
    -- the clock stops
    have hex : ∃ k, stopB l hand k = true := by
      refine Classical.byContradiction fun hne => ?_
      have := clock_bound (k := 2 * l.length + 1) hev fun j _ => by
        cases h : stopB l hand j
        · rfl
        · exact absurd ⟨j, h⟩ hne
      omega
    obtain ⟨k, hk, hmin⟩ : ∃ k, stopB l hand k = true ∧ ∀ j, j < k → stopB l hand j = false := by
      obtain ⟨k0, hk0⟩ := hex
      induction k0 using Nat.strongRecOn with
      | _ k ih =>
        rcases Classical.em (∃ j, j < k ∧ stopB l hand j = true) with ⟨j, hj, hs⟩ | hno
        · exact ih j hj hs
        · refine ⟨k, hk0, fun j hj => ?_⟩
          cases h : stopB l hand j
          · rfl
          · exact absurd ⟨j, hj, h⟩ hno
    have hclk := clock_hit hev hmin hk
    have hm : (hand + k) % l.length < l.length := Nat.mod_lt _ (by omega)
    have hf : l[(hand + k) % l.length]? = some l[(hand + k) % l.length] := by simp [hm]
    have hs := sweep_at l hand _ _ hf k
    have hsb := stopB_of hs
    rw [hk] at hsb
    refine ⟨(hand + k) % l.length, _, _, by simp only [vAt, hu, Bool.false_eq_true, if_false, hclk], hm, hf, by simp only [vNext, hu, Bool.false_eq_true, if_false, hclk]; exact hs, .inr ⟨?_, ?_, ?_⟩⟩
    · have := List.any_eq_false.1 hu _ (List.mem_of_getElem? hf)
      simpa using this
    · revert hsb; split <;> simp_all [evB_ref]
    · revert hsb; split <;> simp_all
/-- Each frame behind Victim is the one that was there, but for Ref. -/
theorem next_facts {l : List Frame} {hand n : Nat} {f : Frame} (hf : l[n]? = some f) : ∃ g, (vNext l hand)[n]? = some g ∧ (g.ref && !f.ref) = false ∧ { g with ref := f.ref } = f := by
  unfold vNext
  split
  · exact ⟨f, hf, by simp, rfl⟩
  · rw [sweep_at l hand n f hf]
    split
    · exact ⟨_, rfl, rfl, rfl⟩
    · exact ⟨_, rfl, by simp, rfl⟩
theorem framesVictim_is (l : List Frame) (hand : Int) : FnIs Try.prog 3 [.d (.arr 40 encFrame l), .d (i6 hand)] [] (.bool true) [] := by
  refine fnIs_of tab_ok Try.func3 rfl rfl rfl ?_
  refine wc_seq ?_
  refine wc_region ?_
  refine reg_quiet rfl (step_C tab_ok (fun K hk => hk)) ?_
  refine reg_nil ?_
  refine seq_n ?_
  refine wc_seq ?_
  refine wc_seq ?_
  refine wc_region ?_
  refine reg_quiet rfl (step_C tab_ok (fun K hk => hk)) ?_
  refine reg_quiet rfl (len_arr tab_ok rfl rfl) ?_
  refine reg_quiet rfl (step_C tab_ok (fun K hk => hk)) ?_
  refine reg_nil ?_
  refine seq_n ?_
  refine wc_cond rfl (fun hb => ?_) (fun hb => ?_)
  · refine wc_seq ?_
    refine wc_region ?_
    refine reg_quiet rfl (call_r lives_is rfl rfl arg_nil (.inl rfl) (fun _ => rfl)) ?_
    refine reg_quiet rfl (step_C tab_ok (fun K hk => hk)) ?_
    refine reg_nil ?_
    refine seq_n ?_
    refine wc_ret ?_
    refine seq_r ?_
    exact ⟨trivial, [], .of rfl rfl rfl rfl rfl ⟨⟨_, rfl, AVLe.of_eq rfl⟩, rfl, trivial⟩ trivial⟩
  have hlen : l.length ≤ 1000000 := by have := of_decide_eq_false hb; omega
  cases hc : (decide (hand < 0) || decide (hand ≥ l.length)) with
  | true =>
    have hV := victim_arg l hand hc
    refine wc_skip ?_
    refine seq_n ?_
    refine wc_seq ?_
    refine wc_region ?_
    refine reg_quiet rfl (step_C tab_ok (fun K hk => hk)) ?_
    refine reg_quiet rfl (step_C tab_ok (fun K hk => hk)) ?_
    refine reg_quiet rfl (call_new hV rfl rfl (arg_e (arg_e arg_nil)) (.inl rfl) rfl rfl) ?_
    refine reg_quiet rfl (step_C tab_ok (fun K hk => hk)) ?_
    refine reg_quiet rfl (step_C tab_ok (fun K hk => hk)) ?_
    refine reg_quiet rfl (step_C tab_ok (fun K hk => hk)) ?_
    refine reg_quiet rfl (step_C tab_ok (fun K hk => hk)) ?_
    refine reg_quiet rfl (step_C tab_ok (fun K hk => hk)) ?_
    refine reg_quiet rfl (step_C tab_ok (fun K hk => hk)) ?_
    refine reg_quiet rfl (step_C tab_ok (fun K hk => hk)) ?_
    refine reg_quiet rfl (step_C tab_ok (fun K hk => hk)) ?_
    refine reg_quiet rfl (step_C tab_ok (fun K hk => hk)) ?_
    refine reg_nil ?_
    refine seq_n ?_
    refine wc_seq ?_
    refine wc_seq_cut 33 (.bool (decide ((hand : Int) < 0) || decide ((hand : Int) ≥ l.length))) _ rfl ?_ ?_
    · refine reg_quiet rfl (step_C tab_ok (fun K hk => hk)) ?_
      refine reg_quiet rfl (step_C tab_ok (fun K hk => hk)) ?_
      refine reg_quiet rfl (step_C tab_ok (fun K hk => hk)) ?_
      refine reg_split rfl rfl rfl (fun hb => ?_) (fun hb => ?_)
      refine reg_on rfl rfl (by assumption) ?_
      refine reg_quiet rfl (step_C tab_ok (fun K hk => hk)) ?_
      refine reg_on rfl rfl (by assumption) ?_
      refine reg_quiet rfl (step_C tab_ok (fun K hk => hk)) ?_
      refine reg_on rfl rfl (by assumption) ?_
      refine reg_quiet rfl (len_arr tab_ok rfl rfl) ?_
      refine reg_on rfl rfl (by assumption) ?_
      refine reg_quiet rfl (step_C tab_ok (fun K hk => hk)) ?_
      refine reg_quiet rfl (pick_F tab_ok rfl (by assumption) rfl) ?_
      rotate_left
      refine reg_skip rfl rfl (by assumption) rfl rfl ?_
      refine reg_skip rfl rfl (by assumption) rfl rfl ?_
      refine reg_skip rfl rfl (by assumption) rfl rfl ?_
      refine reg_skip rfl rfl (by assumption) rfl rfl ?_
      refine reg_quiet rfl (pick_T tab_ok rfl (by assumption) rfl) ?_
      rotate_left
      all_goals refine reg_cut 8 rfl rfl rfl rfl rfl rfl rfl rfl rfl (AVLe.of_eq ?_)
      all_goals (first | rfl | (simp_all; done) | (simp_all; omega))
    refine wc_true rfl (by assumption) ?_
    refine wc_seq ?_
    refine wc_region ?_
    refine reg_quiet rfl (step_C tab_ok (fun K hk => hk)) ?_
    refine reg_quiet rfl (step_C tab_ok (fun K hk => hk)) ?_
    refine reg_quiet rfl (step_C tab_ok (fun K hk => hk)) ?_
    refine reg_on rfl rfl rfl ?_
    refine reg_quiet rfl (step_C tab_ok (fun K hk => hk)) ?_
    refine reg_on rfl rfl rfl ?_
    refine reg_quiet rfl (step_C tab_ok (fun K hk => hk)) ?_
    refine reg_quiet rfl (pick_T tab_ok rfl rfl rfl) ?_
    refine reg_quiet rfl (step_C tab_ok (fun K hk => hk)) ?_
    refine reg_on rfl rfl rfl ?_
    refine reg_quiet rfl (step_C tab_ok (fun K hk => hk)) ?_
    refine reg_on rfl rfl rfl ?_
    refine reg_quiet rfl (step_C tab_ok (fun K hk => hk)) ?_
    refine reg_quiet rfl (pick_T tab_ok rfl rfl rfl) ?_
    refine reg_quiet rfl (step_C tab_ok (fun K hk => hk)) ?_
    refine reg_on rfl rfl rfl ?_
    refine reg_quiet rfl (step_C tab_ok (fun K hk => hk)) ?_
    refine reg_on rfl rfl rfl ?_
    refine reg_quiet rfl (len_nil tab_ok rfl rfl) ?_
    refine reg_on rfl rfl rfl ?_
    refine reg_quiet rfl (step_C tab_ok (fun K hk => hk)) ?_
    refine reg_quiet rfl (pick_T tab_ok rfl rfl rfl) ?_
    refine reg_quiet rfl (step_C tab_ok (fun K hk => hk)) ?_
    refine reg_on rfl rfl rfl ?_
    refine reg_quiet rfl (call_r lives_is rfl rfl arg_nil (.inl rfl) (fun _ => rfl)) ?_
    refine reg_quiet rfl (pick_T tab_ok rfl rfl rfl) ?_
    refine reg_quiet rfl (step_C tab_ok (fun K hk => hk)) ?_
    refine reg_nil ?_
    refine seq_n ?_
    refine wc_ret ?_
    refine seq_r ?_
    exact ⟨trivial, [], .of rfl rfl rfl rfl rfl ⟨⟨_, rfl, AVLe.of_eq rfl⟩, rfl, trivial⟩ trivial⟩
  | false =>
  cases hx : l.any fun f => !f.used || evB f with
  | false =>
    have hx' : (!l.any fun f => !f.used || evB f) = true := by rw [hx]; rfl
    have hE : decide ((if (l.any fun f => !f.used || evB f) = true then (1 : Int) else 0) = 0) = true := by rw [hx]; rfl
    have hV := victim_none l hand hlen hc hx'
    refine wc_skip ?_
    refine seq_n ?_
    refine wc_seq ?_
    refine wc_region ?_
    refine reg_quiet rfl (step_C tab_ok (fun K hk => hk)) ?_
    refine reg_quiet rfl (step_C tab_ok (fun K hk => hk)) ?_
    refine reg_quiet rfl (call_new hV rfl rfl (arg_e (arg_e arg_nil)) (.inl rfl) rfl rfl) ?_
    refine reg_quiet rfl (step_C tab_ok (fun K hk => hk)) ?_
    refine reg_quiet rfl (step_C tab_ok (fun K hk => hk)) ?_
    refine reg_quiet rfl (step_C tab_ok (fun K hk => hk)) ?_
    refine reg_quiet rfl (step_C tab_ok (fun K hk => hk)) ?_
    refine reg_quiet rfl (step_C tab_ok (fun K hk => hk)) ?_
    refine reg_quiet rfl (step_C tab_ok (fun K hk => hk)) ?_
    refine reg_quiet rfl (step_C tab_ok (fun K hk => hk)) ?_
    refine reg_quiet rfl (step_C tab_ok (fun K hk => hk)) ?_
    refine reg_quiet rfl (step_C tab_ok (fun K hk => hk)) ?_
    refine reg_nil ?_
    refine seq_n ?_
    refine wc_seq ?_
    refine wc_seq_cut 33 (.bool (decide ((hand : Int) < 0) || decide ((hand : Int) ≥ l.length))) _ rfl ?_ ?_
    · refine reg_quiet rfl (step_C tab_ok (fun K hk => hk)) ?_
      refine reg_quiet rfl (step_C tab_ok (fun K hk => hk)) ?_
      refine reg_quiet rfl (step_C tab_ok (fun K hk => hk)) ?_
      refine reg_split rfl rfl rfl (fun hb => ?_) (fun hb => ?_)
      refine reg_on rfl rfl (by assumption) ?_
      refine reg_quiet rfl (step_C tab_ok (fun K hk => hk)) ?_
      refine reg_on rfl rfl (by assumption) ?_
      refine reg_quiet rfl (step_C tab_ok (fun K hk => hk)) ?_
      refine reg_on rfl rfl (by assumption) ?_
      refine reg_quiet rfl (len_arr tab_ok rfl rfl) ?_
      refine reg_on rfl rfl (by assumption) ?_
      refine reg_quiet rfl (step_C tab_ok (fun K hk => hk)) ?_
      refine reg_quiet rfl (pick_F tab_ok rfl (by assumption) rfl) ?_
      rotate_left
      refine reg_skip rfl rfl (by assumption) rfl rfl ?_
      refine reg_skip rfl rfl (by assumption) rfl rfl ?_
      refine reg_skip rfl rfl (by assumption) rfl rfl ?_
      refine reg_skip rfl rfl (by assumption) rfl rfl ?_
      refine reg_quiet rfl (pick_T tab_ok rfl (by assumption) rfl) ?_
      rotate_left
      all_goals refine reg_cut 8 rfl rfl rfl rfl rfl rfl rfl rfl rfl (AVLe.of_eq ?_)
      all_goals (first | rfl | (simp_all; done) | (simp_all; omega))
    refine wc_false rfl (by assumption) ?_
    refine wc_skip ?_
    refine seq_n ?_
    refine wc_seq ?_
    refine wc_seq ?_
    refine wc_region ?_
    refine reg_quiet rfl (step_C tab_ok (fun K hk => hk)) ?_
    refine reg_quiet rfl (call_r (exists_is l hlen) rfl rfl (arg_e arg_nil) (.inl rfl) (fun _ => rfl)) ?_
    refine reg_quiet rfl (step_C tab_ok (fun K hk => hk)) ?_
    refine reg_nil ?_
    refine seq_n ?_
    refine wc_true rfl (by assumption) ?_
    refine wc_seq ?_
    refine wc_region ?_
    refine reg_quiet rfl (step_C tab_ok (fun K hk => hk)) ?_
    refine reg_quiet rfl (step_C tab_ok (fun K hk => hk)) ?_
    refine reg_quiet rfl (step_C tab_ok (fun K hk => hk)) ?_
    refine reg_on rfl rfl rfl ?_
    refine reg_quiet rfl (step_C tab_ok (fun K hk => hk)) ?_
    refine reg_on rfl rfl rfl ?_
    refine reg_quiet rfl (step_C tab_ok (fun K hk => hk)) ?_
    refine reg_quiet rfl (pick_T tab_ok rfl rfl rfl) ?_
    refine reg_quiet rfl (step_C tab_ok (fun K hk => hk)) ?_
    refine reg_on rfl rfl rfl ?_
    refine reg_quiet rfl (step_C tab_ok (fun K hk => hk)) ?_
    refine reg_on rfl rfl rfl ?_
    refine reg_quiet rfl (step_C tab_ok (fun K hk => hk)) ?_
    refine reg_quiet rfl (pick_T tab_ok rfl rfl rfl) ?_
    refine reg_quiet rfl (step_C tab_ok (fun K hk => hk)) ?_
    refine reg_on rfl rfl rfl ?_
    refine reg_quiet rfl (step_C tab_ok (fun K hk => hk)) ?_
    refine reg_on rfl rfl rfl ?_
    refine reg_quiet rfl (len_nil tab_ok rfl rfl) ?_
    refine reg_on rfl rfl rfl ?_
    refine reg_quiet rfl (step_C tab_ok (fun K hk => hk)) ?_
    refine reg_quiet rfl (pick_T tab_ok rfl rfl rfl) ?_
    refine reg_quiet rfl (step_C tab_ok (fun K hk => hk)) ?_
    refine reg_on rfl rfl rfl ?_
    refine reg_quiet rfl (step_C tab_ok (fun K hk => hk)) ?_
    refine reg_on rfl rfl rfl ?_
    refine reg_quiet rfl (call_r (refexists_is l hlen) rfl rfl (arg_e arg_nil) (.inl rfl) (fun _ => rfl)) ?_
    refine reg_on rfl rfl rfl ?_
    refine reg_quiet rfl (step_C tab_ok (fun K hk => hk)) ?_
    refine reg_quiet rfl (pick_T tab_ok rfl rfl rfl) ?_
    refine reg_quiet rfl (step_C tab_ok (fun K hk => hk)) ?_
    refine reg_on rfl rfl (by assumption) ?_
    refine reg_quiet rfl (call_r lives_is rfl rfl arg_nil (.inl rfl) (fun _ => rfl)) ?_
    refine reg_quiet rfl (pick_T tab_ok rfl (by assumption) rfl) ?_
    refine reg_quiet rfl (step_C tab_ok (fun K hk => hk)) ?_
    refine reg_nil ?_
    refine seq_n ?_
    refine wc_ret ?_
    refine seq_r ?_
    exact ⟨trivial, [], .of rfl rfl rfl rfl rfl ⟨⟨_, rfl, AVLe.of_eq rfl⟩, rfl, trivial⟩ trivial⟩
  | true =>
    have hx' : (!l.any fun f => !f.used || evB f) = false := by rw [hx]; rfl
    obtain ⟨hn, hhn⟩ : ∃ n : Nat, (n : Int) = hand := ⟨hand.toNat, by rw [Bool.or_eq_false_iff] at hc; have := of_decide_eq_false hc.1; omega⟩
    have hh : hn < l.length := by rw [Bool.or_eq_false_iff] at hc; have := of_decide_eq_false hc.2; omega
    have hV := victim_ok l hn hlen hh hx
    have hR := refvictim_is l hn hlen hh hx
    rw [show i6 (hn : Int) = i6 hand by rw [hhn]] at hV hR
    have hS := refsame_is (vNext l hn) (vNext l hn) (by rw [vNext_len]; exact hlen) (by rw [vNext_len]; exact hlen)
    rw [decide_eq_true rfl, if_pos rfl] at hS
    have hA1 : (!decide (vAt l hn = vAt l hn)) = false := by simp
    have hA2 : (!decide (vAfter l hn = vAfter l hn)) = false := by simp
    have hC : (!decide (((vNext l hn).length : Int) = ((vNext l hn).length : Int))) = false := by simp
    obtain ⟨i, f, g, hi, hil, hf, hg, hor⟩ := victim_facts hh hx
    have hi0 : 0 ≤ vAt l hn := by omega
    have hi1 : vAt l hn < l.length := by omega
    have hi2 : vAt l hn < (vNext l hn).length := by rw [vNext_len]; omega
    have hf' : l[(vAt l hn).toNat]? = some f := by rw [hi, Int.toNat_natCast]; exact hf
    have hg' : (vNext l hn)[(vAt l hn).toNat]? = some g := by rw [hi, Int.toNat_natCast]; exact hg
    rcases hor with hfu | ⟨hfu, hfe, hgr⟩
    · skip
      refine wc_skip ?_
      refine seq_n ?_
      refine wc_seq ?_
      refine wc_region ?_
      refine reg_quiet rfl (step_C tab_ok (fun K hk => hk)) ?_
      refine reg_quiet rfl (step_C tab_ok (fun K hk => hk)) ?_
      refine reg_new (call_new hV rfl rfl (arg_e (arg_e arg_nil)) (.inl rfl) rfl rfl) rfl ?_
      refine reg_quiet rfl (step_C tab_ok (fun K hk => hk)) ?_
      refine reg_quiet rfl (step_C tab_ok (fun K hk => hk)) ?_
      refine reg_quiet rfl (step_C tab_ok (fun K hk => hk)) ?_
      refine reg_quiet rfl (step_C tab_ok (fun K hk => hk)) ?_
      refine reg_quiet rfl (step_C tab_ok (fun K hk => hk)) ?_
      refine reg_quiet rfl (step_C tab_ok (fun K hk => hk)) ?_
      refine reg_quiet rfl (step_C tab_ok (fun K hk => hk)) ?_
      refine reg_quiet rfl (step_C tab_ok (fun K hk => hk)) ?_
      refine reg_quiet rfl (step_C tab_ok (fun K hk => hk)) ?_
      refine reg_nil ?_
      refine seq_n ?_
      refine wc_seq ?_
      refine wc_seq_cut 33 (.bool (decide ((hand : Int) < 0) || decide ((hand : Int) ≥ l.length))) _ rfl ?_ ?_
      · refine reg_quiet rfl (step_C tab_ok (fun K hk => hk)) ?_
        refine reg_quiet rfl (step_C tab_ok (fun K hk => hk)) ?_
        refine reg_quiet rfl (step_C tab_ok (fun K hk => hk)) ?_
        refine reg_split rfl rfl rfl (fun hb => ?_) (fun hb => ?_)
        refine reg_on rfl rfl (by assumption) ?_
        refine reg_quiet rfl (step_C tab_ok (fun K hk => hk)) ?_
        refine reg_on rfl rfl (by assumption) ?_
        refine reg_quiet rfl (step_C tab_ok (fun K hk => hk)) ?_
        refine reg_on rfl rfl (by assumption) ?_
        refine reg_quiet rfl (len_arr tab_ok rfl rfl) ?_
        refine reg_on rfl rfl (by assumption) ?_
        refine reg_quiet rfl (step_C tab_ok (fun K hk => hk)) ?_
        refine reg_quiet rfl (pick_F tab_ok rfl (by assumption) rfl) ?_
        rotate_left
        refine reg_skip rfl rfl (by assumption) rfl rfl ?_
        refine reg_skip rfl rfl (by assumption) rfl rfl ?_
        refine reg_skip rfl rfl (by assumption) rfl rfl ?_
        refine reg_skip rfl rfl (by assumption) rfl rfl ?_
        refine reg_quiet rfl (pick_T tab_ok rfl (by assumption) rfl) ?_
        rotate_left
        all_goals refine reg_cut 8 rfl rfl rfl rfl rfl rfl rfl rfl rfl (AVLe.of_eq ?_)
        all_goals (first | rfl | (simp_all; done) | (simp_all; omega))
      refine wc_false rfl (by assumption) ?_
      refine wc_skip ?_
      refine seq_n ?_
      refine wc_seq ?_
      refine wc_seq ?_
      refine wc_region ?_
      refine reg_quiet rfl (step_C tab_ok (fun K hk => hk)) ?_
      refine reg_quiet rfl (call_r (exists_is l hlen) rfl rfl (arg_e arg_nil) (.inl rfl) (fun _ => rfl)) ?_
      refine reg_quiet rfl (step_C tab_ok (fun K hk => hk)) ?_
      refine reg_nil ?_
      refine seq_n ?_
      refine wc_false rfl (by assumption) ?_
      refine wc_skip ?_
      refine seq_n ?_
      refine wc_seq ?_
      refine wc_region ?_
      refine reg_quiet rfl (step_C tab_ok (fun K hk => hk)) ?_
      refine reg_quiet rfl (step_C tab_ok (fun K hk => hk)) ?_
      refine reg_new (call_new hR rfl rfl (arg_e (arg_e arg_nil)) (.inl rfl) rfl rfl) rfl ?_
      refine reg_quiet rfl (step_C tab_ok (fun K hk => hk)) ?_
      refine reg_quiet rfl (step_C tab_ok (fun K hk => hk)) ?_
      refine reg_quiet rfl (step_C tab_ok (fun K hk => hk)) ?_
      refine reg_quiet rfl (step_C tab_ok (fun K hk => hk)) ?_
      refine reg_quiet rfl (step_C tab_ok (fun K hk => hk)) ?_
      refine reg_quiet rfl (step_C tab_ok (fun K hk => hk)) ?_
      refine reg_quiet rfl (step_C tab_ok (fun K hk => hk)) ?_
      refine reg_nil ?_
      refine seq_n ?_
      refine wc_seq ?_
      refine wc_seq ?_
      refine wc_region ?_
      refine reg_quiet rfl (step_C tab_ok (fun K hk => hk)) ?_
      refine reg_quiet rfl (step_C tab_ok (fun K hk => hk)) ?_
      refine reg_quiet rfl (step_C tab_ok (fun K hk => hk)) ?_
      refine reg_on rfl rfl rfl ?_
      refine reg_quiet rfl (step_C tab_ok (fun K hk => hk)) ?_
      refine reg_on rfl rfl rfl ?_
      refine reg_quiet rfl (step_C tab_ok (fun K hk => hk)) ?_
      refine reg_on rfl rfl rfl ?_
      refine reg_quiet rfl (step_C tab_ok (fun K hk => hk)) ?_
      refine reg_quiet rfl (pick_F tab_ok rfl rfl rfl) ?_
      refine reg_quiet rfl (step_C tab_ok (fun K hk => hk)) ?_
      refine reg_on rfl rfl (by assumption) ?_
      refine reg_quiet rfl (step_C tab_ok (fun K hk => hk)) ?_
      refine reg_on rfl rfl (by assumption) ?_
      refine reg_quiet rfl (step_C tab_ok (fun K hk => hk)) ?_
      refine reg_on rfl rfl (by assumption) ?_
      refine reg_quiet rfl (step_C tab_ok (fun K hk => hk)) ?_
      refine reg_quiet rfl (pick_F tab_ok rfl (by assumption) rfl) ?_
      refine reg_quiet rfl (step_C tab_ok (fun K hk => hk)) ?_
      refine reg_on rfl rfl (by assumption) ?_
      refine reg_quiet rfl (step_C tab_ok (fun K hk => hk)) ?_
      refine reg_on rfl rfl (by assumption) ?_
      refine reg_quiet rfl (step_C tab_ok (fun K hk => hk)) ?_
      refine reg_on rfl rfl (by assumption) ?_
      refine reg_quiet rfl (call_r hS rfl rfl (arg_own rfl (arg_own rfl arg_nil)) (.inr (PlainRes.sc _)) (fun _ => rfl)) ?_
      refine reg_on rfl rfl (by assumption) ?_
      refine reg_quiet rfl (step_C tab_ok (fun K hk => hk)) ?_
      refine reg_quiet rfl (pick_F tab_ok rfl (by assumption) rfl) ?_
      refine reg_quiet rfl (step_C tab_ok (fun K hk => hk)) ?_
      refine reg_on rfl rfl rfl ?_
      refine reg_quiet rfl (step_C tab_ok (fun K hk => hk)) ?_
      refine reg_on rfl rfl rfl ?_
      refine reg_quiet rfl (cap_exact tab_ok rfl rfl rfl) ?_
      refine reg_on rfl rfl rfl ?_
      refine reg_quiet rfl (step_C tab_ok (fun K hk => hk)) ?_
      refine reg_on rfl rfl rfl ?_
      refine reg_quiet rfl (len_own tab_ok rfl rfl) ?_
      refine reg_on rfl rfl rfl ?_
      refine reg_quiet rfl (step_C tab_ok (fun K hk => hk)) ?_
      refine reg_quiet rfl (pick_F tab_ok rfl rfl rfl) ?_
      refine reg_nil ?_
      refine seq_n ?_
      refine wc_false rfl (by assumption) ?_
      refine wc_skip ?_
      refine seq_n ?_
      refine wc_seq ?_
      refine wc_seq ?_
      refine wc_region ?_
      refine reg_quiet rfl (step_C tab_ok (fun K hk => hk)) ?_
      refine reg_quiet rfl (step_C tab_ok (fun K hk => hk)) ?_
      refine reg_quiet rfl (index_arr tab_ok rfl rfl rfl rfl rfl (by omega) (by assumption)) ?_
      refine reg_quiet rfl (step_C tab_ok (fun K hk => hk)) ?_
      refine reg_quiet rfl (load_i tab_ok rfl rfl) ?_
      refine reg_quiet rfl (step_C tab_ok (fun K hk => hk)) ?_
      refine reg_skip rfl rfl (by assumption) rfl rfl ?_
      refine reg_skip rfl rfl (by assumption) rfl rfl ?_
      refine reg_skip rfl rfl (by assumption) rfl rfl ?_
      refine reg_skip rfl rfl (by assumption) rfl rfl ?_
      refine reg_skip rfl rfl (by assumption) rfl rfl ?_
      refine reg_skip rfl rfl (by assumption) rfl rfl ?_
      refine reg_skip rfl rfl (by assumption) rfl rfl ?_
      refine reg_skipU rfl rfl rfl rfl ?_
      refine reg_skipU rfl rfl rfl rfl ?_
      refine reg_skipU rfl rfl rfl rfl ?_
      refine reg_skipU rfl rfl rfl rfl ?_
      refine reg_skipU rfl rfl rfl rfl ?_
      refine reg_skip rfl rfl (by assumption) rfl rfl ?_
      refine reg_quiet rfl (pick_F tab_ok rfl (by assumption) rfl) ?_
      refine reg_nil ?_
      refine seq_n ?_
      refine wc_false rfl rfl ?_
      refine wc_skip ?_
      refine seq_n ?_
      refine wc_seq ?_
      refine wc_seq ?_
      refine wc_region ?_
      refine reg_quiet rfl (step_C tab_ok (fun K hk => hk)) ?_
      refine reg_nil ?_
      refine seq_n ?_
      refine wc_block ?_
      refine wc_inv (fun n : Nat => ⟨[(12, .int .i64 n), (6, .own 64 0 (vNext l hn).length 40 none), (0, .d (.arr 40 encFrame l))], [(64, some (.ds 39 40 true encFrame (vNext l hn)))], 72, Try.f3.ntmps, 64⟩) (fun n => n ≤ l.length) (fun n => l.length - n) 0 [(64, some 112)] (Nat.zero_le _)
        (.of rfl rfl rfl rfl rfl ⟨⟨_, rfl, .refl _⟩, rfl, ⟨_, rfl, .refl _⟩, rfl, ⟨_, rfl, .refl _⟩, rfl, trivial⟩ ⟨⟨rfl, rfl, _, rfl, .refl _⟩, trivial⟩) ?_
      clear hf hg hf' hg' hfu hi1 hi2 hi hil f g
      intro n hnl
      have hnl2 : (vNext l hn).length = l.length := vNext_len l hn
      refine wc_of ?_
      refine wc_seq ?_
      refine wc_seq ?_
      refine wc_region ?_
      refine reg_quiet rfl (step_C tab_ok (fun K hk => hk)) ?_
      refine reg_quiet rfl (step_C tab_ok (fun K hk => hk)) ?_
      refine reg_quiet rfl (len_arr tab_ok rfl rfl) ?_
      refine reg_quiet rfl (step_C tab_ok (fun K hk => hk)) ?_
      refine reg_nil ?_
      refine seq_n ?_
      refine wc_cond rfl (fun hb1 => ?_) (fun hb1 => ?_)
      · have hlt : n < l.length := by have := of_decide_eq_true hb1; omega
        obtain ⟨f, hf⟩ : ∃ f, l[n]? = some f := ⟨_, List.getElem?_eq_getElem hlt⟩
        obtain ⟨g, hg, hgf, hgs⟩ := next_facts (hand := hn) hf
        have hf' : l[((n : Int)).toNat]? = some f := by rw [Int.toNat_natCast]; exact hf
        have hg' : (vNext l hn)[((n : Int)).toNat]? = some g := by rw [Int.toNat_natCast]; exact hg
        have heq : (!decide (({ g with ref := f.ref } : Frame) = f)) = false := by rw [decide_eq_true hgs]; rfl
        refine wc_skip ?_
        refine seq_n ?_
        refine wc_seq ?_
        refine wc_block ?_
        refine wc_seq ?_
        refine wc_region ?_
        refine reg_quiet rfl (step_C tab_ok (fun K hk => hk)) ?_
        refine reg_quiet rfl (step_C tab_ok (fun K hk => hk)) ?_
        refine reg_quiet rfl (index_own tab_ok rfl rfl rfl rfl rfl (by omega) (by omega)) ?_
        refine reg_quiet rfl (load_row tab_ok rfl rfl ⟨rfl, _, by assumption, _, rfl, rfl⟩ rfl) ?_
        refine reg_new (step_C tab_ok (fun K hk => hk)) rfl ?_
        refine reg_store (store_row tab_ok rfl rfl rfl ⟨_, ⟨rfl, rfl, rfl⟩, rfl⟩ rfl) ?_
        refine reg_nil ?_
        refine seq_n ?_
        refine wc_seq ?_
        refine wc_seq_cut 149 (.bool (g.ref && !f.ref)) _ rfl ?_ ?_
        · refine reg_quiet rfl (step_C tab_ok (fun K hk => hk)) ?_
          refine reg_quiet rfl (load_box tab_ok rfl rfl ⟨_, rfl, rfl⟩ rfl) ?_
          refine reg_quiet rfl (step_C tab_ok (fun K hk => hk)) ?_
          refine reg_split rfl rfl rfl (fun hb => ?_) (fun hb => ?_)
          refine reg_on rfl rfl (by assumption) ?_
          refine reg_quiet rfl (step_C tab_ok (fun K hk => hk)) ?_
          refine reg_on rfl rfl (by assumption) ?_
          refine reg_quiet rfl (step_C tab_ok (fun K hk => hk)) ?_
          refine reg_on rfl rfl (by assumption) ?_
          refine reg_quiet rfl (index_arr tab_ok rfl rfl rfl rfl rfl (by omega) (by assumption)) ?_
          refine reg_on rfl rfl (by assumption) ?_
          refine reg_quiet rfl (step_C tab_ok (fun K hk => hk)) ?_
          refine reg_on rfl rfl (by assumption) ?_
          refine reg_quiet rfl (load_i tab_ok rfl rfl) ?_
          refine reg_on rfl rfl (by assumption) ?_
          refine reg_quiet rfl (step_C tab_ok (fun K hk => hk)) ?_
          refine reg_quiet rfl (pick_T tab_ok rfl (by assumption) rfl) ?_
          rotate_left
          refine reg_skip rfl rfl (by assumption) rfl rfl ?_
          refine reg_skip rfl rfl (by assumption) rfl rfl ?_
          refine reg_skip rfl rfl (by assumption) rfl rfl ?_
          refine reg_skip rfl rfl (by assumption) rfl rfl ?_
          refine reg_skip rfl rfl (by assumption) rfl rfl ?_
          refine reg_skip rfl rfl (by assumption) rfl rfl ?_
          refine reg_quiet rfl (pick_F tab_ok rfl (by assumption) rfl) ?_
          rotate_left
          all_goals refine reg_cut 10 rfl rfl rfl rfl rfl rfl rfl rfl rfl (AVLe.of_eq ?_)
          all_goals (first | rfl | (simp_all; done) | (simp_all; omega))
        refine wc_false rfl (by assumption) ?_
        refine wc_skip ?_
        refine seq_n ?_
        refine wc_seq ?_
        refine wc_region ?_
        refine reg_quiet rfl (step_C tab_ok (fun K hk => hk)) ?_
        refine reg_quiet rfl (step_C tab_ok (fun K hk => hk)) ?_
        refine reg_quiet rfl (index_arr tab_ok rfl rfl rfl rfl rfl (by omega) (by assumption)) ?_
        refine reg_quiet rfl (step_C tab_ok (fun K hk => hk)) ?_
        refine reg_quiet rfl (load_i tab_ok rfl rfl) ?_
        refine reg_quiet rfl (step_C tab_ok (fun K hk => hk)) ?_
        refine reg_store (store_row tab_ok rfl rfl rfl ⟨_, ⟨_, ⟨_, ⟨rfl, rfl, rfl⟩, rfl⟩, rfl⟩, rfl⟩ rfl) ?_
        refine reg_nil ?_
        refine seq_n ?_
        refine wc_seq ?_
        refine wc_draw (by kernel_rfl) ?_
        refine dreg_step rfl (load_box tab_ok rfl rfl rfl rfl) rfl rfl ?_
        refine dreg_step rfl (step_C tab_ok (fun K hk => hk)) rfl rfl ?_
        refine dreg_step rfl (step_C tab_ok (fun K hk => hk)) rfl rfl ?_
        refine dreg_step rfl (index_arr tab_ok rfl rfl rfl rfl rfl (by omega) (by assumption)) rfl rfl ?_
        refine dreg_step rfl (load_i tab_ok rfl rfl) rfl rfl ?_
        refine dreg_step rfl (neq_data rfl rfl rfl rfl (by kernel_rfl) (by decide) (frame_eq { g with ref := f.ref } f)) rfl rfl ?_
        refine dreg_nil (by kernel_rfl) ?_
        refine seq_n ?_
        refine wc_false rfl (by assumption) ?_
        refine wc_skip ?_
        refine blk_n ?_
        refine seq_n ?_
        refine wc_region ?_
        refine reg_quiet rfl (step_C tab_ok (fun K hk => hk)) ?_
        refine reg_quiet rfl (add_int tab_ok rfl rfl (wrap_i64 (by omega) (by omega))) ?_
        refine reg_quiet rfl (step_C tab_ok (fun K hk => hk)) ?_
        refine reg_nil ?_
        refine loop_n (n + 1) [] hlt (by omega) ?_
        exact .of rfl rfl rfl rfl rfl ⟨⟨_, rfl, .refl _⟩, rfl, ⟨_, rfl, .refl _⟩, rfl, ⟨_, rfl, .refl _⟩, rfl, trivial⟩ ⟨⟨rfl, rfl, _, rfl, .refl _⟩, trivial⟩
      · refine wc_exit ?_
        refine seq_x ?_
        refine loop_x ?_
        refine blk_x ?_
        refine seq_n ?_
        refine wc_seq ?_
        refine wc_region ?_
        refine reg_quiet rfl (call_r lives_is rfl rfl arg_nil (.inl rfl) (fun _ => rfl)) ?_
        refine reg_quiet rfl (step_C tab_ok (fun K hk => hk)) ?_
        refine reg_nil ?_
        refine seq_n ?_
        refine wc_ret ?_
        exact ⟨trivial, [], .of rfl rfl rfl rfl rfl ⟨⟨_, rfl, AVLe.of_eq rfl⟩, rfl, trivial⟩ trivial⟩
    · have hE0 : decide ((if evB f = true then (1 : Int) else 0) = 0) = false := by rw [hfe]; rfl
      refine wc_skip ?_
      refine seq_n ?_
      refine wc_seq ?_
      refine wc_region ?_
      refine reg_quiet rfl (step_C tab_ok (fun K hk => hk)) ?_
      refine reg_quiet rfl (step_C tab_ok (fun K hk => hk)) ?_
      refine reg_new (call_new hV rfl rfl (arg_e (arg_e arg_nil)) (.inl rfl) rfl rfl) rfl ?_
      refine reg_quiet rfl (step_C tab_ok (fun K hk => hk)) ?_
      refine reg_quiet rfl (step_C tab_ok (fun K hk => hk)) ?_
      refine reg_quiet rfl (step_C tab_ok (fun K hk => hk)) ?_
      refine reg_quiet rfl (step_C tab_ok (fun K hk => hk)) ?_
      refine reg_quiet rfl (step_C tab_ok (fun K hk => hk)) ?_
      refine reg_quiet rfl (step_C tab_ok (fun K hk => hk)) ?_
      refine reg_quiet rfl (step_C tab_ok (fun K hk => hk)) ?_
      refine reg_quiet rfl (step_C tab_ok (fun K hk => hk)) ?_
      refine reg_quiet rfl (step_C tab_ok (fun K hk => hk)) ?_
      refine reg_nil ?_
      refine seq_n ?_
      refine wc_seq ?_
      refine wc_seq_cut 33 (.bool (decide ((hand : Int) < 0) || decide ((hand : Int) ≥ l.length))) _ rfl ?_ ?_
      · refine reg_quiet rfl (step_C tab_ok (fun K hk => hk)) ?_
        refine reg_quiet rfl (step_C tab_ok (fun K hk => hk)) ?_
        refine reg_quiet rfl (step_C tab_ok (fun K hk => hk)) ?_
        refine reg_split rfl rfl rfl (fun hb => ?_) (fun hb => ?_)
        refine reg_on rfl rfl (by assumption) ?_
        refine reg_quiet rfl (step_C tab_ok (fun K hk => hk)) ?_
        refine reg_on rfl rfl (by assumption) ?_
        refine reg_quiet rfl (step_C tab_ok (fun K hk => hk)) ?_
        refine reg_on rfl rfl (by assumption) ?_
        refine reg_quiet rfl (len_arr tab_ok rfl rfl) ?_
        refine reg_on rfl rfl (by assumption) ?_
        refine reg_quiet rfl (step_C tab_ok (fun K hk => hk)) ?_
        refine reg_quiet rfl (pick_F tab_ok rfl (by assumption) rfl) ?_
        rotate_left
        refine reg_skip rfl rfl (by assumption) rfl rfl ?_
        refine reg_skip rfl rfl (by assumption) rfl rfl ?_
        refine reg_skip rfl rfl (by assumption) rfl rfl ?_
        refine reg_skip rfl rfl (by assumption) rfl rfl ?_
        refine reg_quiet rfl (pick_T tab_ok rfl (by assumption) rfl) ?_
        rotate_left
        all_goals refine reg_cut 8 rfl rfl rfl rfl rfl rfl rfl rfl rfl (AVLe.of_eq ?_)
        all_goals (first | rfl | (simp_all; done) | (simp_all; omega))
      refine wc_false rfl (by assumption) ?_
      refine wc_skip ?_
      refine seq_n ?_
      refine wc_seq ?_
      refine wc_seq ?_
      refine wc_region ?_
      refine reg_quiet rfl (step_C tab_ok (fun K hk => hk)) ?_
      refine reg_quiet rfl (call_r (exists_is l hlen) rfl rfl (arg_e arg_nil) (.inl rfl) (fun _ => rfl)) ?_
      refine reg_quiet rfl (step_C tab_ok (fun K hk => hk)) ?_
      refine reg_nil ?_
      refine seq_n ?_
      refine wc_false rfl (by assumption) ?_
      refine wc_skip ?_
      refine seq_n ?_
      refine wc_seq ?_
      refine wc_region ?_
      refine reg_quiet rfl (step_C tab_ok (fun K hk => hk)) ?_
      refine reg_quiet rfl (step_C tab_ok (fun K hk => hk)) ?_
      refine reg_new (call_new hR rfl rfl (arg_e (arg_e arg_nil)) (.inl rfl) rfl rfl) rfl ?_
      refine reg_quiet rfl (step_C tab_ok (fun K hk => hk)) ?_
      refine reg_quiet rfl (step_C tab_ok (fun K hk => hk)) ?_
      refine reg_quiet rfl (step_C tab_ok (fun K hk => hk)) ?_
      refine reg_quiet rfl (step_C tab_ok (fun K hk => hk)) ?_
      refine reg_quiet rfl (step_C tab_ok (fun K hk => hk)) ?_
      refine reg_quiet rfl (step_C tab_ok (fun K hk => hk)) ?_
      refine reg_quiet rfl (step_C tab_ok (fun K hk => hk)) ?_
      refine reg_nil ?_
      refine seq_n ?_
      refine wc_seq ?_
      refine wc_seq ?_
      refine wc_region ?_
      refine reg_quiet rfl (step_C tab_ok (fun K hk => hk)) ?_
      refine reg_quiet rfl (step_C tab_ok (fun K hk => hk)) ?_
      refine reg_quiet rfl (step_C tab_ok (fun K hk => hk)) ?_
      refine reg_on rfl rfl rfl ?_
      refine reg_quiet rfl (step_C tab_ok (fun K hk => hk)) ?_
      refine reg_on rfl rfl rfl ?_
      refine reg_quiet rfl (step_C tab_ok (fun K hk => hk)) ?_
      refine reg_on rfl rfl rfl ?_
      refine reg_quiet rfl (step_C tab_ok (fun K hk => hk)) ?_
      refine reg_quiet rfl (pick_F tab_ok rfl rfl rfl) ?_
      refine reg_quiet rfl (step_C tab_ok (fun K hk => hk)) ?_
      refine reg_on rfl rfl (by assumption) ?_
      refine reg_quiet rfl (step_C tab_ok (fun K hk => hk)) ?_
      refine reg_on rfl rfl (by assumption) ?_
      refine reg_quiet rfl (step_C tab_ok (fun K hk => hk)) ?_
      refine reg_on rfl rfl (by assumption) ?_
      refine reg_quiet rfl (step_C tab_ok (fun K hk => hk)) ?_
      refine reg_quiet rfl (pick_F tab_ok rfl (by assumption) rfl) ?_
      refine reg_quiet rfl (step_C tab_ok (fun K hk => hk)) ?_
      refine reg_on rfl rfl (by assumption) ?_
      refine reg_quiet rfl (step_C tab_ok (fun K hk => hk)) ?_
      refine reg_on rfl rfl (by assumption) ?_
      refine reg_quiet rfl (step_C tab_ok (fun K hk => hk)) ?_
      refine reg_on rfl rfl (by assumption) ?_
      refine reg_quiet rfl (call_r hS rfl rfl (arg_own rfl (arg_own rfl arg_nil)) (.inr (PlainRes.sc _)) (fun _ => rfl)) ?_
      refine reg_on rfl rfl (by assumption) ?_
      refine reg_quiet rfl (step_C tab_ok (fun K hk => hk)) ?_
      refine reg_quiet rfl (pick_F tab_ok rfl (by assumption) rfl) ?_
      refine reg_quiet rfl (step_C tab_ok (fun K hk => hk)) ?_
      refine reg_on rfl rfl rfl ?_
      refine reg_quiet rfl (step_C tab_ok (fun K hk => hk)) ?_
      refine reg_on rfl rfl rfl ?_
      refine reg_quiet rfl (cap_exact tab_ok rfl rfl rfl) ?_
      refine reg_on rfl rfl rfl ?_
      refine reg_quiet rfl (step_C tab_ok (fun K hk => hk)) ?_
      refine reg_on rfl rfl rfl ?_
      refine reg_quiet rfl (len_own tab_ok rfl rfl) ?_
      refine reg_on rfl rfl rfl ?_
      refine reg_quiet rfl (step_C tab_ok (fun K hk => hk)) ?_
      refine reg_quiet rfl (pick_F tab_ok rfl rfl rfl) ?_
      refine reg_nil ?_
      refine seq_n ?_
      refine wc_false rfl (by assumption) ?_
      refine wc_skip ?_
      refine seq_n ?_
      refine wc_seq ?_
      refine wc_seq ?_
      refine wc_region ?_
      refine reg_quiet rfl (step_C tab_ok (fun K hk => hk)) ?_
      refine reg_quiet rfl (step_C tab_ok (fun K hk => hk)) ?_
      refine reg_quiet rfl (index_arr tab_ok rfl rfl rfl rfl rfl (by omega) (by assumption)) ?_
      refine reg_quiet rfl (step_C tab_ok (fun K hk => hk)) ?_
      refine reg_quiet rfl (load_i tab_ok rfl rfl) ?_
      refine reg_quiet rfl (step_C tab_ok (fun K hk => hk)) ?_
      refine reg_on rfl rfl (by assumption) ?_
      refine reg_quiet rfl (step_C tab_ok (fun K hk => hk)) ?_
      refine reg_on rfl rfl (by assumption) ?_
      refine reg_quiet rfl (step_C tab_ok (fun K hk => hk)) ?_
      refine reg_on rfl rfl (by assumption) ?_
      refine reg_quiet rfl (index_arr tab_ok rfl rfl rfl rfl rfl (by omega) (by assumption)) ?_
      refine reg_on rfl rfl (by assumption) ?_
      refine reg_quiet rfl (load_i tab_ok rfl rfl) ?_
      refine reg_on rfl rfl (by assumption) ?_
      refine reg_quiet rfl (call_r (ev_is _) rfl rfl (arg_e arg_nil) (.inl rfl) (fun _ => rfl)) ?_
      refine reg_on rfl rfl (by assumption) ?_
      refine reg_quiet rfl (step_C tab_ok (fun K hk => hk)) ?_
      refine reg_on rfl rfl (by assumption) ?_
      refine reg_quiet rfl (step_C tab_ok (fun K hk => hk)) ?_
      refine reg_on rfl rfl (by assumption) ?_
      refine reg_quiet rfl (step_C tab_ok (fun K hk => hk)) ?_
      refine reg_on rfl rfl (by assumption) ?_
      refine reg_quiet rfl (step_C tab_ok (fun K hk => hk)) ?_
      refine reg_on rfl rfl (by assumption) ?_
      refine reg_quiet rfl (index_own tab_ok rfl rfl rfl rfl rfl (by omega) (by omega)) ?_
      refine reg_on rfl rfl (by assumption) ?_
      refine reg_quiet rfl (step_C tab_ok (fun K hk => hk)) ?_
      refine reg_on rfl rfl (by assumption) ?_
      refine reg_quiet rfl (load_row (v := .d (bo g.ref)) tab_ok rfl rfl ⟨rfl, g, hg', bo g.ref, rfl, rfl⟩ rfl) ?_
      refine reg_on rfl rfl (by assumption) ?_
      refine reg_quiet rfl (pick_F tab_ok rfl (by assumption) rfl) ?_
      refine reg_quiet rfl (pick_T tab_ok rfl (by assumption) rfl) ?_
      refine reg_nil ?_
      refine seq_n ?_
      refine wc_false rfl (by assumption) ?_
      refine wc_skip ?_
      refine seq_n ?_
      refine wc_seq ?_
      refine wc_seq ?_
      refine wc_region ?_
      refine reg_quiet rfl (step_C tab_ok (fun K hk => hk)) ?_
      refine reg_nil ?_
      refine seq_n ?_
      refine wc_block ?_
      refine wc_inv (fun n : Nat => ⟨[(12, .int .i64 n), (6, .own 64 0 (vNext l hn).length 40 none), (0, .d (.arr 40 encFrame l))], [(64, some (.ds 39 40 true encFrame (vNext l hn)))], 72, Try.f3.ntmps, 64⟩) (fun n => n ≤ l.length) (fun n => l.length - n) 0 [(64, some 112)] (Nat.zero_le _)
        (.of rfl rfl rfl rfl rfl ⟨⟨_, rfl, .refl _⟩, rfl, ⟨_, rfl, .refl _⟩, rfl, ⟨_, rfl, .refl _⟩, rfl, trivial⟩ ⟨⟨rfl, rfl, _, rfl, .refl _⟩, trivial⟩) ?_
      clear hf hg hf' hg' hfu hfe hgr hE0 hi1 hi2 hi hil f g
      intro n hnl
      have hnl2 : (vNext l hn).length = l.length := vNext_len l hn
      refine wc_of ?_
      refine wc_seq ?_
      refine wc_seq ?_
      refine wc_region ?_
      refine reg_quiet rfl (step_C tab_ok (fun K hk => hk)) ?_
      refine reg_quiet rfl (step_C tab_ok (fun K hk => hk)) ?_
      refine reg_quiet rfl (len_arr tab_ok rfl rfl) ?_
      refine reg_quiet rfl (step_C tab_ok (fun K hk => hk)) ?_
      refine reg_nil ?_
      refine seq_n ?_
      refine wc_cond rfl (fun hb1 => ?_) (fun hb1 => ?_)
      · have hlt : n < l.length := by have := of_decide_eq_true hb1; omega
        obtain ⟨f, hf⟩ : ∃ f, l[n]? = some f := ⟨_, List.getElem?_eq_getElem hlt⟩
        obtain ⟨g, hg, hgf, hgs⟩ := next_facts (hand := hn) hf
        have hf' : l[((n : Int)).toNat]? = some f := by rw [Int.toNat_natCast]; exact hf
        have hg' : (vNext l hn)[((n : Int)).toNat]? = some g := by rw [Int.toNat_natCast]; exact hg
        have heq : (!decide (({ g with ref := f.ref } : Frame) = f)) = false := by rw [decide_eq_true hgs]; rfl
        refine wc_skip ?_
        refine seq_n ?_
        refine wc_seq ?_
        refine wc_block ?_
        refine wc_seq ?_
        refine wc_region ?_
        refine reg_quiet rfl (step_C tab_ok (fun K hk => hk)) ?_
        refine reg_quiet rfl (step_C tab_ok (fun K hk => hk)) ?_
        refine reg_quiet rfl (index_own tab_ok rfl rfl rfl rfl rfl (by omega) (by omega)) ?_
        refine reg_quiet rfl (load_row tab_ok rfl rfl ⟨rfl, _, by assumption, _, rfl, rfl⟩ rfl) ?_
        refine reg_new (step_C tab_ok (fun K hk => hk)) rfl ?_
        refine reg_store (store_row tab_ok rfl rfl rfl ⟨_, ⟨rfl, rfl, rfl⟩, rfl⟩ rfl) ?_
        refine reg_nil ?_
        refine seq_n ?_
        refine wc_seq ?_
        refine wc_seq_cut 149 (.bool (g.ref && !f.ref)) _ rfl ?_ ?_
        · refine reg_quiet rfl (step_C tab_ok (fun K hk => hk)) ?_
          refine reg_quiet rfl (load_box tab_ok rfl rfl ⟨_, rfl, rfl⟩ rfl) ?_
          refine reg_quiet rfl (step_C tab_ok (fun K hk => hk)) ?_
          refine reg_split rfl rfl rfl (fun hb => ?_) (fun hb => ?_)
          refine reg_on rfl rfl (by assumption) ?_
          refine reg_quiet rfl (step_C tab_ok (fun K hk => hk)) ?_
          refine reg_on rfl rfl (by assumption) ?_
          refine reg_quiet rfl (step_C tab_ok (fun K hk => hk)) ?_
          refine reg_on rfl rfl (by assumption) ?_
          refine reg_quiet rfl (index_arr tab_ok rfl rfl rfl rfl rfl (by omega) (by assumption)) ?_
          refine reg_on rfl rfl (by assumption) ?_
          refine reg_quiet rfl (step_C tab_ok (fun K hk => hk)) ?_
          refine reg_on rfl rfl (by assumption) ?_
          refine reg_quiet rfl (load_i tab_ok rfl rfl) ?_
          refine reg_on rfl rfl (by assumption) ?_
          refine reg_quiet rfl (step_C tab_ok (fun K hk => hk)) ?_
          refine reg_quiet rfl (pick_T tab_ok rfl (by assumption) rfl) ?_
          rotate_left
          refine reg_skip rfl rfl (by assumption) rfl rfl ?_
          refine reg_skip rfl rfl (by assumption) rfl rfl ?_
          refine reg_skip rfl rfl (by assumption) rfl rfl ?_
          refine reg_skip rfl rfl (by assumption) rfl rfl ?_
          refine reg_skip rfl rfl (by assumption) rfl rfl ?_
          refine reg_skip rfl rfl (by assumption) rfl rfl ?_
          refine reg_quiet rfl (pick_F tab_ok rfl (by assumption) rfl) ?_
          rotate_left
          all_goals refine reg_cut 10 rfl rfl rfl rfl rfl rfl rfl rfl rfl (AVLe.of_eq ?_)
          all_goals (first | rfl | (simp_all; done) | (simp_all; omega))
        refine wc_false rfl (by assumption) ?_
        refine wc_skip ?_
        refine seq_n ?_
        refine wc_seq ?_
        refine wc_region ?_
        refine reg_quiet rfl (step_C tab_ok (fun K hk => hk)) ?_
        refine reg_quiet rfl (step_C tab_ok (fun K hk => hk)) ?_
        refine reg_quiet rfl (index_arr tab_ok rfl rfl rfl rfl rfl (by omega) (by assumption)) ?_
        refine reg_quiet rfl (step_C tab_ok (fun K hk => hk)) ?_
        refine reg_quiet rfl (load_i tab_ok rfl rfl) ?_
        refine reg_quiet rfl (step_C tab_ok (fun K hk => hk)) ?_
        refine reg_store (store_row tab_ok rfl rfl rfl ⟨_, ⟨_, ⟨_, ⟨rfl, rfl, rfl⟩, rfl⟩, rfl⟩, rfl⟩ rfl) ?_
        refine reg_nil ?_
        refine seq_n ?_
        refine wc_seq ?_
        refine wc_draw (by kernel_rfl) ?_
        refine dreg_step rfl (load_box tab_ok rfl rfl rfl rfl) rfl rfl ?_
        refine dreg_step rfl (step_C tab_ok (fun K hk => hk)) rfl rfl ?_
        refine dreg_step rfl (step_C tab_ok (fun K hk => hk)) rfl rfl ?_
        refine dreg_step rfl (index_arr tab_ok rfl rfl rfl rfl rfl (by omega) (by assumption)) rfl rfl ?_
        refine dreg_step rfl (load_i tab_ok rfl rfl) rfl rfl ?_
        refine dreg_step rfl (neq_data rfl rfl rfl rfl (by kernel_rfl) (by decide) (frame_eq { g with ref := f.ref } f)) rfl rfl ?_
        refine dreg_nil (by kernel_rfl) ?_
        refine seq_n ?_
        refine wc_false rfl (by assumption) ?_
        refine wc_skip ?_
        refine blk_n ?_
        refine seq_n ?_
        refine wc_region ?_
        refine reg_quiet rfl (step_C tab_ok (fun K hk => hk)) ?_
        refine reg_quiet rfl (add_int tab_ok rfl rfl (wrap_i64 (by omega) (by omega))) ?_
        refine reg_quiet rfl (step_C tab_ok (fun K hk => hk)) ?_
        refine reg_nil ?_
        refine loop_n (n + 1) [] hlt (by omega) ?_
        exact .of rfl rfl rfl rfl rfl ⟨⟨_, rfl, .refl _⟩, rfl, ⟨_, rfl, .refl _⟩, rfl, ⟨_, rfl, .refl _⟩, rfl, trivial⟩ ⟨⟨rfl, rfl, _, rfl, .refl _⟩, trivial⟩
      · refine wc_exit ?_
        refine seq_x ?_
        refine loop_x ?_
        refine blk_x ?_
        refine seq_n ?_
        refine wc_seq ?_
        refine wc_region ?_
        refine reg_quiet rfl (call_r lives_is rfl rfl arg_nil (.inl rfl) (fun _ => rfl)) ?_
        refine reg_quiet rfl (step_C tab_ok (fun K hk => hk)) ?_
        refine reg_nil ?_
        refine seq_n ?_
        refine wc_ret ?_
        exact ⟨trivial, [], .of rfl rfl rfl rfl rfl ⟨⟨_, rfl, AVLe.of_eq rfl⟩, rfl, trivial⟩ trivial⟩
end Go.Proofs.Ytmdfeekpehcieaa

/- FramesVictim: the walked law is the statement. -/
namespace Go.Proofs.Ytmdfeekpehcieaa
open Go.ChangeShapes Go.WideShapes Go.ChangeAt Go.RowKit Go.Eng
theorem own : ownKnob Try.prog.godebug = none := by kernel_rfl
theorem laidOut : laidOutB Try.prog = true := by kernel_rfl
set_option maxRecDepth 100000 in
theorem lifted (os : Os) (started : os.Started) (H : Type) (enc : TypeId × Value → H) :
    ReturnsInHanded {} Try.checked os 3 .any (Rows.framesVictimSpec.pre6 enc Try.prog Try.f3 Rows.framesVictimRow.domain false) (Rows.framesVictimSpec.post enc Try.prog Try.f3 false true false false) := by
  refine returnsInHanded_of_change (C := Try.checked) own started (by kernel_rfl) Try.func3
    (ChangeSpec.witness6 (enc := enc) (C := Try.checked) false ⟨#[], #[(.slice none 0 0), (.int .i64 0)], []⟩ 8 (by kernel_rfl) (by kernel_rfl) (by kernel_rfl) (by kernel_rfl)) ?_
  intro W base args ds gs before hval0 hW hcnd _
  have hval : ∀ (j : Nat) t v, Try.f3.params[j]? = some t → args[j]? = some v → Value.okWide Try.prog W .any base t v := hval0
  have hW' := hW
  obtain ⟨p, q, hA0, hV, rfl, hfz, hnd⟩ := hW
  have hA : DataW.TrodAll enc Try.prog W 0 (fun _ => true) true Try.f3.params.toList args.toList ds p := hA0
  rw [Try.params3] at hA hval
  obtain ⟨v0, vs0, d0, ds0, p0, q0, hargs, rfl, rfl, h0, r0⟩ := trodAll_cons hA
  obtain ⟨v1, vs1, d1, ds1, p1, q1, rfl, rfl, rfl, h1, r1⟩ := trodAll_cons r0
  obtain ⟨rfl, rfl, rfl⟩ := trodAll_nil r1
  obtain rfl : args = #[v0, v1] := Array.ext' (by simpa using hargs)
  obtain ⟨rfl, rfl⟩ := trodVars_none hV
  have k0 := h0
  have lt0 : ∀ x ∈ p0, x.block < W.heap.size := by obtain ⟨m, hm⟩ := k0; exact DataW.trod_lt m _ _ _ hm
  obtain ⟨fuel0, hfu0⟩ := h0
  obtain ⟨x0, e0, _, w0⟩ := opens_frames H enc W _ _ fuel0 _ _ hfu0
  obtain ⟨ad0, ln0, cp0, hcs0⟩ := okWide_slice Try.underlying22 (hval 0 22 v0 rfl rfl)
  have rel0 : RelV (fun _ => none) W (fun _ => False) (.d (encFrames x0)) v0 := e0.relV ⟨fun ⟨c, hc⟩ => (by rw [hcs0] at hc; cases hc), fun hc => (by cases hc)⟩
  have k1 := h1
  have lt1 : ∀ x ∈ p1, x.block < W.heap.size := by obtain ⟨m, hm⟩ := k1; exact DataW.trod_lt m _ _ _ hm
  obtain ⟨x1, e1, _, w1⟩ : ∃ m : Int, Enc W (fun _ => False) (.sc (.int .i64 m)) v1.cells.toList ∧ v1.cells.toList.length = 1 ∧ (Lit.int .i64 m).wf = true := by obtain ⟨fuel, hfu⟩ := h1; exact opens_int (P := Try.prog) Try.underlying3 H enc W _ _ fuel _ _ hfu
  obtain ⟨m1, hcs1⟩ := okWide_int Try.underlying3 (hval 1 3 v1 rfl rfl)
  have rel1 : RelV (fun _ => none) W (fun _ => False) (.d (.sc (.int .i64 x1))) v1 := e1.relV ⟨fun ⟨c, hc⟩ => (by rw [hcs1] at hc; cases hc), fun hc => (by cases hc)⟩
  clear hA0 hval0
  refine (law_calls (framesVictim_is x0 x1) (W := W) (args := #[v0, v1]) ⟨v0, [v1], rfl, ⟨rel0, trivial⟩, ⟨v1, [], rfl, ⟨rel1, trivial⟩, rfl⟩⟩).mono fun e W' ⟨he, bel⟩ => ?_
  subst he
  exact ⟨_, rfl, _, _, _, [], _, [], hW', trodAll_mk1 (shut_bool Try.underlying4 _), (trodAll_cons_mk (Below.trod laidOut (by kernel_rfl) (of_decide_eq_true (by kernel_rfl)) k0 bel lt0) (trodAll_cons_mk (Below.trod laidOut (by kernel_rfl) (of_decide_eq_true (by kernel_rfl)) k1 bel lt1) trodAll_mk0)), rfl, bel.frame _, fun h => by cases h⟩

theorem over : Rows.framesVictimRow.holds Try.pinned (OpenSpec.ofChange Rows.framesVictimSpec) :=
  OpenClaim.holds_of_wide 3 Try.f3 rfl rfl rfl rfl rfl rfl rfl ⟨rfl, rfl, rfl, rfl, rfl⟩ rfl rfl rfl rfl rfl (by kernel_rfl) Try.func3 (by kernel_rfl)
    (of_decide_eq_true (by kernel_rfl)) (by unfold Func.isWrapper; first | (rw [if_pos (by decide +kernel)]; kernel_rfl) | (rw [if_neg (by decide +kernel)]; exact ⟨rfl, rfl⟩))
    (fun os started H enc _ => lifted os started H enc)
theorem framesVictim_holds : Rows.FramesVictimSaid := over
end Go.Proofs.Ytmdfeekpehcieaa
