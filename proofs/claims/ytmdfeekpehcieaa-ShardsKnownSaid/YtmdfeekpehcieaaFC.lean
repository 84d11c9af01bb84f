/- Frames: what the laws say of lists, victims and bytes. -/
import Derived.Test.YtmdfeekpehcieaaFB

set_option linter.unusedVariables false
set_option linter.unusedSimpArgs false

/- FramesFind: every list is searched as the definition searches it. -/
namespace Go.Proofs.Ytmdfeekpehcieaa
open Go.Eng
set_option maxHeartbeats 1000000
attribute [local irreducible] WC RegS RegD SeqQ BlkQ ScoQ RegK CutK Sat SatN FnIs LoopQ StepIs OpIs
theorem found_eq (p : Frame → Bool) (l : List Frame) : (l.any p != decide (fidx p l ≥ 0)) = false := by rw [fidx_any]; simp
theorem at_eq (p : Frame → Bool) (l : List Frame) : (!decide ((if fidx p l < 0 then 0 else fidx p l) = max (fidx p l) 0)) = false := by
  rw [Bool.not_eq_false', decide_eq_true_eq]
  split <;> omega
theorem one_eq (b : Bool) : (b != decide ((if b = true then (1 : Int) else 0) = 1)) = false := by cases b <;> rfl
theorem one_eq2 (b : Bool) : (b == decide ((if b = true then (1 : Int) else 0) = 1)) = true := by cases b <;> rfl
theorem framesFind_is (l m : List Frame) (block : Int) : FnIs Try.prog 8 [.d (.arr 40 encFrame l), .d (.arr 40 encFrame m), .d (i6 block)] [] (.bool true) [] := by
  refine fnIs_of tab_ok Try.func8 rfl rfl rfl ?_
  refine wc_seq ?_
  refine wc_region ?_
  refine reg_quiet rfl (step_C tab_ok (fun K hk => hk)) ?_
  refine reg_nil ?_
  refine seq_n ?_
  refine wc_seq ?_
  refine wc_seq_cut 17 (.bool (decide ((l.length : Int) > 40) || decide ((m.length : Int) > 40))) _ rfl ?_ ?_
  · refine reg_quiet rfl (step_C tab_ok (fun K hk => hk)) ?_
    refine reg_quiet rfl (len_arr tab_ok rfl rfl) ?_
    refine reg_quiet rfl (step_C tab_ok (fun K hk => hk)) ?_
    refine reg_quiet rfl (step_C tab_ok (fun K hk => hk)) ?_
    refine reg_split rfl rfl rfl (fun hb => ?_) (fun hb => ?_)
    refine reg_on rfl rfl (by assumption) ?_
    refine reg_quiet rfl (step_C tab_ok (fun K hk => hk)) ?_
    refine reg_on rfl rfl (by assumption) ?_
    refine reg_quiet rfl (len_arr tab_ok rfl rfl) ?_
    refine reg_on rfl rfl (by assumption) ?_
    refine reg_quiet rfl (step_C tab_ok (fun K hk => hk)) ?_
    refine reg_quiet rfl (pick_F tab_ok rfl (by assumption) rfl) ?_
    rotate_left
    refine reg_skip rfl rfl (by assumption) rfl rfl ?_
    refine reg_skip rfl rfl (by assumption) rfl rfl ?_
    refine reg_skip rfl rfl (by assumption) rfl rfl ?_
    refine reg_quiet rfl (pick_T tab_ok rfl (by assumption) rfl) ?_
    rotate_left
    all_goals refine reg_cut 8 rfl rfl rfl rfl rfl rfl rfl rfl rfl (AVLe.of_eq ?_)
    all_goals (first | rfl | (simp_all; done) | (simp_all; omega))
  refine wc_cond rfl (fun hb => ?_) (fun hb => ?_)
  · refine wc_seq ?_
    refine wc_region ?_
    refine reg_quiet rfl (call_r lives_is rfl rfl arg_nil (.inl rfl) (fun _ => rfl)) ?_
    refine reg_quiet rfl (step_C tab_ok (fun K hk => hk)) ?_
    refine reg_nil ?_
    refine seq_n ?_
    refine wc_ret ?_
    refine seq_r ?_
    exact ⟨trivial, [], .of rfl rfl rfl rfl rfl ⟨⟨_, rfl, AVLe.of_eq rfl⟩, rfl, trivial⟩ trivial⟩
  · have hl : l.length ≤ 1000000 := by rw [Bool.or_eq_false_iff] at hb; have := of_decide_eq_false hb.1; omega
    have hm : m.length ≤ 1000000 := by rw [Bool.or_eq_false_iff] at hb; have := of_decide_eq_false hb.2; omega
    have hF1 := found_eq (fun f => f.used && decide (f.block = block)) l
    have hM1 := at_eq (fun f => f.used && decide (f.block = block)) l
    have hF2 := found_eq (fun f => f.dirty && !f.busy) l
    have hM2 := at_eq (fun f => f.dirty && !f.busy) l
    have hE := one_eq (l.any fun f => !f.used || evB f)
    have hS1 := one_eq2 (decide (l = m))
    have hS2 : decide (l = l) = true := decide_eq_true rfl
    refine wc_skip ?_
    refine seq_n ?_
    refine wc_seq ?_
    refine wc_region ?_
    refine reg_quiet rfl (step_C tab_ok (fun K hk => hk)) ?_
    refine reg_quiet rfl (step_C tab_ok (fun K hk => hk)) ?_
    refine reg_quiet rfl (call_r (find_is l block hl) rfl rfl (arg_e (arg_e arg_nil)) (.inl rfl) (fun _ => rfl)) ?_
    refine reg_quiet rfl (step_C tab_ok (fun K hk => hk)) ?_
    refine reg_quiet rfl (step_C tab_ok (fun K hk => hk)) ?_
    refine reg_quiet rfl (step_C tab_ok (fun K hk => hk)) ?_
    refine reg_quiet rfl (step_C tab_ok (fun K hk => hk)) ?_
    refine reg_quiet rfl (step_C tab_ok (fun K hk => hk)) ?_
    refine reg_nil ?_
    refine seq_n ?_
    refine wc_seq ?_
    refine wc_region ?_
    refine reg_quiet rfl (step_C tab_ok (fun K hk => hk)) ?_
    refine reg_quiet rfl (step_C tab_ok (fun K hk => hk)) ?_
    refine reg_quiet rfl (call_r (reffind_is l block hl) rfl rfl (arg_e (arg_e arg_nil)) (.inl rfl) (fun _ => rfl)) ?_
    refine reg_quiet rfl (step_C tab_ok (fun K hk => hk)) ?_
    refine reg_nil ?_
    refine seq_n ?_
    refine wc_seq ?_
    refine wc_seq ?_
    refine wc_region ?_
    refine reg_quiet rfl (step_C tab_ok (fun K hk => hk)) ?_
    refine reg_quiet rfl (step_C tab_ok (fun K hk => hk)) ?_
    refine reg_quiet rfl (step_C tab_ok (fun K hk => hk)) ?_
    refine reg_quiet rfl (step_C tab_ok (fun K hk => hk)) ?_
    refine reg_quiet rfl (step_C tab_ok (fun K hk => hk)) ?_
    refine reg_on rfl rfl (by assumption) ?_
    refine reg_quiet rfl (step_C tab_ok (fun K hk => hk)) ?_
    refine reg_on rfl rfl (by assumption) ?_
    refine reg_quiet rfl (step_C tab_ok (fun K hk => hk)) ?_
    refine reg_on rfl rfl (by assumption) ?_
    refine reg_quiet rfl (max_int rfl rfl rfl) ?_
    refine reg_on rfl rfl (by assumption) ?_
    refine reg_quiet rfl (step_C tab_ok (fun K hk => hk)) ?_
    refine reg_quiet rfl (pick_F tab_ok rfl (by assumption) rfl) ?_
    refine reg_nil ?_
    refine seq_n ?_
    refine wc_false rfl (by assumption) ?_
    refine wc_skip ?_
    refine seq_n ?_
    refine wc_seq ?_
    refine wc_region ?_
    refine reg_quiet rfl (step_C tab_ok (fun K hk => hk)) ?_
    refine reg_quiet rfl (call_r (waiting_is l hl) rfl rfl (arg_e arg_nil) (.inl rfl) (fun _ => rfl)) ?_
    refine reg_quiet rfl (step_C tab_ok (fun K hk => hk)) ?_
    refine reg_quiet rfl (step_C tab_ok (fun K hk => hk)) ?_
    refine reg_quiet rfl (step_C tab_ok (fun K hk => hk)) ?_
    refine reg_quiet rfl (step_C tab_ok (fun K hk => hk)) ?_
    refine reg_quiet rfl (step_C tab_ok (fun K hk => hk)) ?_
    refine reg_nil ?_
    refine seq_n ?_
    refine wc_seq ?_
    refine wc_region ?_
    refine reg_quiet rfl (step_C tab_ok (fun K hk => hk)) ?_
    refine reg_quiet rfl (call_r (refwaiting_is l hl) rfl rfl (arg_e arg_nil) (.inl rfl) (fun _ => rfl)) ?_
    refine reg_quiet rfl (step_C tab_ok (fun K hk => hk)) ?_
    refine reg_nil ?_
    refine seq_n ?_
    refine wc_seq ?_
    refine wc_seq ?_
    refine wc_region ?_
    refine reg_quiet rfl (step_C tab_ok (fun K hk => hk)) ?_
    refine reg_quiet rfl (step_C tab_ok (fun K hk => hk)) ?_
    refine reg_quiet rfl (step_C tab_ok (fun K hk => hk)) ?_
    refine reg_quiet rfl (step_C tab_ok (fun K hk => hk)) ?_
    refine reg_quiet rfl (step_C tab_ok (fun K hk => hk)) ?_
    refine reg_on rfl rfl (by assumption) ?_
    refine reg_quiet rfl (step_C tab_ok (fun K hk => hk)) ?_
    refine reg_on rfl rfl (by assumption) ?_
    refine reg_quiet rfl (step_C tab_ok (fun K hk => hk)) ?_
    refine reg_on rfl rfl (by assumption) ?_
    refine reg_quiet rfl (max_int rfl rfl rfl) ?_
    refine reg_on rfl rfl (by assumption) ?_
    refine reg_quiet rfl (step_C tab_ok (fun K hk => hk)) ?_
    refine reg_quiet rfl (pick_F tab_ok rfl (by assumption) rfl) ?_
    refine reg_quiet rfl (step_C tab_ok (fun K hk => hk)) ?_
    refine reg_on rfl rfl (by assumption) ?_
    refine reg_quiet rfl (step_C tab_ok (fun K hk => hk)) ?_
    refine reg_on rfl rfl (by assumption) ?_
    refine reg_quiet rfl (call_r (exists_is l hl) rfl rfl (arg_e arg_nil) (.inl rfl) (fun _ => rfl)) ?_
    refine reg_on rfl rfl (by assumption) ?_
    refine reg_quiet rfl (step_C tab_ok (fun K hk => hk)) ?_
    refine reg_on rfl rfl (by assumption) ?_
    refine reg_quiet rfl (call_r (refexists_is l hl) rfl rfl (arg_e arg_nil) (.inl rfl) (fun _ => rfl)) ?_
    refine reg_on rfl rfl (by assumption) ?_
    refine reg_quiet rfl (step_C tab_ok (fun K hk => hk)) ?_
    refine reg_on rfl rfl (by assumption) ?_
    refine reg_quiet rfl (step_C tab_ok (fun K hk => hk)) ?_
    refine reg_quiet rfl (pick_F tab_ok rfl (by assumption) rfl) ?_
    refine reg_nil ?_
    refine seq_n ?_
    refine wc_false rfl (by assumption) ?_
    refine wc_skip ?_
    refine seq_n ?_
    refine wc_seq ?_
    refine wc_region ?_
    refine reg_quiet rfl (step_C tab_ok (fun K hk => hk)) ?_
    refine reg_quiet rfl (step_C tab_ok (fun K hk => hk)) ?_
    refine reg_quiet rfl (call_r (same_is l m hl hm) rfl rfl (arg_e (arg_e arg_nil)) (.inl rfl) (fun _ => rfl)) ?_
    refine reg_quiet rfl (step_C tab_ok (fun K hk => hk)) ?_
    refine reg_quiet rfl (step_C tab_ok (fun K hk => hk)) ?_
    refine reg_quiet rfl (call_r (refsame_is l m hl hm) rfl rfl (arg_e (arg_e arg_nil)) (.inl rfl) (fun _ => rfl)) ?_
    refine reg_quiet rfl (step_C tab_ok (fun K hk => hk)) ?_
    refine reg_quiet rfl (step_C tab_ok (fun K hk => hk)) ?_
    refine reg_quiet rfl (step_C tab_ok (fun K hk => hk)) ?_
    refine reg_on rfl rfl (by assumption) ?_
    refine reg_quiet rfl (step_C tab_ok (fun K hk => hk)) ?_
    refine reg_on rfl rfl (by assumption) ?_
    refine reg_quiet rfl (step_C tab_ok (fun K hk => hk)) ?_
    refine reg_on rfl rfl (by assumption) ?_
    refine reg_quiet rfl (call_r (same_is l l hl hl) rfl rfl (arg_e (arg_e arg_nil)) (.inl rfl) (fun _ => rfl)) ?_
    refine reg_quiet rfl (pick_T tab_ok rfl (by assumption) rfl) ?_
    refine reg_quiet rfl (step_C tab_ok (fun K hk => hk)) ?_
    refine reg_on rfl rfl (by assumption) ?_
    refine reg_quiet rfl (call_r lives_is rfl rfl arg_nil (.inl rfl) (fun _ => rfl)) ?_
    refine reg_quiet rfl (pick_T tab_ok rfl (by assumption) rfl) ?_
    refine reg_quiet rfl (step_C tab_ok (fun K hk => hk)) ?_
    refine reg_nil ?_
    refine seq_n ?_
    refine wc_ret ?_
    exact ⟨trivial, [], .of rfl rfl rfl rfl rfl ⟨⟨_, rfl, AVLe.of_eq rfl⟩, rfl, trivial⟩ trivial⟩
end Go.Proofs.Ytmdfeekpehcieaa

/- The victim of the definition. -/
namespace Go.Proofs.Ytmdfeekpehcieaa
open Go.Eng
set_option maxHeartbeats 1000000
attribute [local irreducible] WC RegS RegD SeqQ BlkQ ScoQ RegK CutK Sat SatN FnIs LoopQ StepIs OpIs
abbrev tup3 (a b c : AV) : AV := .tup (.acons a (.acons b (.acons c .anil)))
theorem refvictim_is (l : List Frame) (hand : Nat) (hlen : l.length ≤ 1000000) (hh : hand < l.length) (hx : (l.any fun f => !f.used || evB f) = true) :
    FnIs Try.prog 19 [.d (.arr 40 encFrame l), .d (i6 hand)] [] (tup3 (.int .i64 (vAt l hand)) (.own 64 0 (vNext l hand).length 40 none) (.int .i64 (vAfter l hand))) [(64, .ds 39 40 false encFrame (vNext l hand))] := by
  refine fnIs_of tab_ok Try.func19 rfl rfl rfl ?_
  refine wc_seq ?_
  refine wc_region ?_
  refine reg_quiet rfl (step_C tab_ok (fun K hk => hk)) ?_
  refine reg_quiet rfl (step_C tab_ok (fun K hk => hk)) ?_
  refine reg_quiet rfl (step_C tab_ok (fun K hk => hk)) ?_
  refine reg_nil ?_
  refine seq_n ?_
  refine wc_seq ?_
  refine wc_region ?_
  refine reg_quiet rfl (step_C tab_ok (fun K hk => hk)) ?_
  refine reg_nil ?_
  refine seq_n ?_
  refine wc_seq ?_
  refine wc_seq ?_
  refine wc_region ?_
  refine reg_quiet rfl (step_C tab_ok (fun K hk => hk)) ?_
  refine reg_nil ?_
  refine seq_n ?_
  refine wc_block ?_
  refine wc_inv (fun i : Nat => ⟨[(8, .int .i64 i), (7, .own 64 0 (l.take i).length 40 none), (0, .d (.arr 40 encFrame l)), (1, .int .i64 hand)], [(64, some (.ds 39 40 false encFrame (l.take i)))], 72, Try.f19.ntmps, 64⟩) (fun i => i ≤ l.length) (fun i => l.length - i) 0 [(64, none)] (Nat.zero_le _)
    (.of rfl rfl rfl rfl rfl ⟨⟨_, rfl, .refl _⟩, rfl, ⟨_, rfl, .refl _⟩, rfl, ⟨_, rfl, .refl _⟩, rfl, ⟨_, rfl, .refl _⟩, rfl, trivial⟩ ⟨⟨rfl, rfl, rfl⟩, trivial⟩) ?_
  intro i hi
  refine wc_of ?_
  refine wc_seq ?_
  refine wc_seq ?_
  refine wc_region ?_
  refine reg_quiet rfl (step_C tab_ok (fun K hk => hk)) ?_
  refine reg_quiet rfl (step_C tab_ok (fun K hk => hk)) ?_
  refine reg_quiet rfl (len_arr tab_ok rfl rfl) ?_
  refine reg_quiet rfl (step_C tab_ok (fun K hk => hk)) ?_
  refine reg_nil ?_
  refine seq_n ?_
  refine wc_cond rfl (fun hb => ?_) (fun hb => ?_)
  · have hlt : i < l.length := by have := of_decide_eq_true hb; omega
    obtain ⟨f, hf⟩ : ∃ f, l[i]? = some f := ⟨_, List.getElem?_eq_getElem hlt⟩
    have hf' : l[((i : Int)).toNat]? = some f := by rw [Int.toNat_natCast]; exact hf
    have hlen3 : (l.take i).length + 1 ≤ 1048576 := by simp only [List.length_take]; omega
    have ht : l.take (i + 1) = l.take i ++ [f] := by rw [List.take_add_one, hf]; rfl
    have htl : (l.take (i + 1)).length = (l.take i).length + 1 := by rw [ht, List.length_append (bs := [_])]; rfl
    refine wc_skip ?_
    refine seq_n ?_
    refine wc_seq ?_
    refine wc_block ?_
    refine wc_region ?_
    refine reg_quiet rfl (step_C tab_ok (fun K hk => hk)) ?_
    refine reg_quiet rfl (step_C tab_ok (fun K hk => hk)) ?_
    refine reg_quiet rfl (step_C tab_ok (fun K hk => hk)) ?_
    refine reg_quiet rfl (index_arr tab_ok rfl rfl rfl rfl rfl (by omega) (by assumption)) ?_
    refine reg_quiet rfl (load_i tab_ok rfl rfl) ?_
    refine reg_new (build_slice tab_ok rfl rfl rfl rfl rfl rfl rfl rfl) rfl ?_
    refine reg_new2 (append_one (s := 40) tab_ok f rfl rfl rfl rfl rfl rfl rfl rfl rfl hlen3 rfl) rfl ?_
    refine reg_quiet rfl (step_C tab_ok (fun K hk => hk)) ?_
    refine reg_nil ?_
    refine blk_n ?_
    refine seq_n ?_
    refine wc_region ?_
    refine reg_quiet rfl (step_C tab_ok (fun K hk => hk)) ?_
    refine reg_quiet rfl (add_int tab_ok rfl rfl (wrap_i64 (by omega) (by omega))) ?_
    refine reg_quiet rfl (step_C tab_ok (fun K hk => hk)) ?_
    refine reg_nil ?_
    refine loop_n (i + 1) [(64, some 152)] hlt (by omega) ?_
    exact .of rfl rfl rfl rfl rfl ⟨⟨_, rfl, .refl _⟩, rfl, ⟨_, rfl, .of_eq (by rw [htl]; rfl)⟩, rfl, ⟨_, rfl, .refl _⟩, rfl, ⟨_, rfl, .refl _⟩, rfl, trivial⟩ ⟨⟨rfl, rfl, _, rfl, .of_eq (by rw [ht]; rfl)⟩, trivial⟩
  · have he : i = l.length := by have := of_decide_eq_false hb; omega
    subst he
    have htake : l.take l.length = l := List.take_length
    refine wc_exit ?_
    refine seq_x ?_
    refine loop_x ?_
    refine blk_x ?_
    refine seq_n ?_
    refine wc_seq ?_
    refine wc_seq ?_
    refine wc_region ?_
    refine reg_quiet rfl (step_C tab_ok (fun K hk => hk)) ?_
    refine reg_quiet rfl (call_r (unused_is l hlen) rfl rfl (arg_e arg_nil) (.inl rfl) (fun _ => rfl)) ?_
    refine reg_quiet rfl (step_C tab_ok (fun K hk => hk)) ?_
    refine reg_nil ?_
    refine seq_n ?_
    refine wc_cond rfl (fun hu => ?_) (fun hu => ?_)
    · have hu' : (l.any fun f => !f.used) = true := by rw [← fidx_any]; exact hu
      refine wc_seq ?_
      refine wc_region ?_
      refine reg_quiet rfl (step_C tab_ok (fun K hk => hk)) ?_
      refine reg_quiet rfl (call_r (unused_is l hlen) rfl rfl (arg_e arg_nil) (.inl rfl) (fun _ => rfl)) ?_
      refine reg_quiet rfl (step_C tab_ok (fun K hk => hk)) ?_
      refine reg_quiet rfl (step_C tab_ok (fun K hk => hk)) ?_
      refine reg_quiet rfl (step_C tab_ok (fun K hk => hk)) ?_
      refine reg_quiet rfl (step_C tab_ok (fun K hk => hk)) ?_
      refine reg_quiet rfl (step_C tab_ok (fun K hk => hk)) ?_
      refine reg_nil ?_
      refine seq_n ?_
      refine wc_ret ?_
      refine seq_r ?_
      refine ⟨trivial, [], .of rfl rfl rfl rfl rfl ⟨⟨_, rfl, AVLe.of_eq ?_⟩, rfl, trivial⟩ ⟨⟨rfl, rfl, _, rfl, .of_eq ?_⟩, trivial⟩⟩
      · rw [htake]; simp only [vAt, vNext, vAfter, hu', if_true]; rfl
      · rw [htake]; simp only [vNext, hu', if_true]; rfl
    · have hu' : (l.any fun f => !f.used) = false := by rw [← fidx_any]; exact hu
      have hev : l.any evB = true := by
        obtain ⟨f, hf, hp⟩ := List.any_eq_true.1 hx
        have h2 := List.any_eq_false.1 hu' f hf
        refine List.any_eq_true.2 ⟨f, hf, ?_⟩
        cases hfu : f.used <;> simp_all
      have hmod : hand % l.length = hand := Nat.mod_eq_of_lt hh
      refine wc_skip ?_
      refine seq_n ?_
      refine wc_seq ?_
      refine wc_region ?_
      refine reg_quiet rfl (step_C tab_ok (fun K hk => hk)) ?_
      refine reg_quiet rfl (step_C tab_ok (fun K hk => hk)) ?_
      refine reg_nil ?_
      refine seq_n ?_
      refine wc_seq ?_
      refine wc_block ?_
      refine wc_inv (fun k : Nat => ⟨[(9, .int .i64 ((hand + k) % l.length : Nat)), (7, .own 64 0 l.length 40 none), (0, .d (.arr 40 encFrame l))], [(64, some (.ds 39 40 false encFrame (sweep l hand k)))], 72, Try.f19.ntmps, 64⟩) (fun k => ∀ j, j < k → stopB l hand j = false) (fun k => 2 * l.length + 1 - k) 0 [] (fun j h => absurd h (Nat.not_lt_zero _))
        (.of rfl rfl rfl rfl rfl ⟨⟨_, rfl, .of_eq (by rw [Nat.add_zero, hmod]; rfl)⟩, rfl, ⟨_, rfl, .of_eq (by rw [htake]; rfl)⟩, rfl, ⟨_, rfl, .refl _⟩, rfl, trivial⟩ ⟨⟨rfl, rfl, _, rfl, .of_eq (by rw [htake]; rfl)⟩, trivial⟩) ?_
      intro k hinv
      have hbound := clock_bound hev hinv
      obtain ⟨m, hm⟩ : ∃ m, (hand + k) % l.length = m := ⟨_, rfl⟩
      have hm1 : m < l.length := by rw [← hm]; exact Nat.mod_lt _ (by omega)
      rw [hm]
      obtain ⟨f, hf⟩ : ∃ f, (sweep l hand k)[m]? = some f := ⟨_, List.getElem?_eq_getElem (by rw [sweep_len]; exact hm1)⟩
      have hf' : (sweep l hand k)[((m : Int)).toNat]? = some f := by rw [Int.toNat_natCast]; exact hf
      have hstop : stopB l hand k = (evB f && !f.ref) := stopB_of (by rw [hm]; exact hf)
      have hsw : sweep l hand (k + 1) = if evB f = true then (sweep l hand k).set m { f with ref := false } else sweep l hand k := by
        rw [sweep, hm, bump, hf]
      have hnext : (if (m : Int) = (l.length : Int) - 1 then (0 : Int) else (m : Int) + 1) = (((m + 1) % l.length : Nat) : Int) := by
        rcases Nat.lt_or_ge (m + 1) l.length with h | h
        · rw [if_neg (by omega), Nat.mod_eq_of_lt h]; simp
        · rw [if_pos (by omega), show m + 1 = l.length by omega, Nat.mod_self]; rfl
      have hk1 : (hand + (k + 1)) % l.length = (m + 1) % l.length := by rw [← Nat.add_assoc, ← Nat.mod_add_mod, hm]
      refine wc_of ?_
      refine wc_seq ?_
      refine wc_seq_cut 43 (.bool (decide ((if evB f = true then (1 : Int) else 0) = 0) || f.ref)) _ rfl ?_ ?_
      · refine reg_quiet rfl (step_C tab_ok (fun K hk => hk)) ?_
        refine reg_quiet rfl (step_C tab_ok (fun K hk => hk)) ?_
        refine reg_quiet rfl (index_own tab_ok rfl rfl rfl rfl rfl (by omega) (by omega)) ?_
        refine reg_quiet rfl (load_row tab_ok rfl rfl ⟨rfl, _, by assumption, _, rfl, rfl⟩ rfl) ?_
        refine reg_quiet rfl (call_r (ev_is _) rfl rfl (arg_e arg_nil) (.inl rfl) (fun _ => rfl)) ?_
        refine reg_quiet rfl (step_C tab_ok (fun K hk => hk)) ?_
        refine reg_quiet rfl (step_C tab_ok (fun K hk => hk)) ?_
        refine reg_split rfl rfl rfl (fun hb => ?_) (fun hb => ?_)
        refine reg_on rfl rfl (by assumption) ?_
        refine reg_quiet rfl (step_C tab_ok (fun K hk => hk)) ?_
        refine reg_on rfl rfl (by assumption) ?_
        refine reg_quiet rfl (step_C tab_ok (fun K hk => hk)) ?_
        refine reg_on rfl rfl (by assumption) ?_
        refine reg_quiet rfl (index_own tab_ok rfl rfl rfl rfl rfl (by omega) (by omega)) ?_
        refine reg_on rfl rfl (by assumption) ?_
        refine reg_quiet rfl (step_C tab_ok (fun K hk => hk)) ?_
        refine reg_on rfl rfl (by assumption) ?_
        refine reg_quiet rfl (load_row (v := .d (bo f.ref)) tab_ok rfl rfl ⟨rfl, f, hf', bo f.ref, rfl, rfl⟩ rfl) ?_
        refine reg_quiet rfl (pick_F tab_ok rfl (by assumption) rfl) ?_
        rotate_left
        refine reg_skip rfl rfl (by assumption) rfl rfl ?_
        refine reg_skip rfl rfl (by assumption) rfl rfl ?_
        refine reg_skip rfl rfl (by assumption) rfl rfl ?_
        refine reg_skip rfl rfl (by assumption) rfl rfl ?_
        refine reg_skip rfl rfl (by assumption) rfl rfl ?_
        refine reg_quiet rfl (pick_T tab_ok rfl (by assumption) rfl) ?_
        rotate_left
        all_goals refine reg_cut 13 rfl rfl rfl rfl rfl rfl rfl rfl rfl (AVLe.of_eq ?_)
        all_goals (first | rfl | (simp_all; done) | (simp_all; omega))
      refine wc_cond rfl (fun hb3 => ?_) (fun hb3 => ?_)
      · refine wc_skip ?_
        refine seq_n ?_
        refine wc_block ?_
        refine wc_seq ?_
        refine wc_seq ?_
        refine wc_region ?_
        refine reg_quiet rfl (step_C tab_ok (fun K hk => hk)) ?_
        refine reg_quiet rfl (step_C tab_ok (fun K hk => hk)) ?_
        refine reg_quiet rfl (index_own tab_ok rfl rfl rfl rfl rfl (by omega) (by omega)) ?_
        refine reg_quiet rfl (load_row tab_ok rfl rfl ⟨rfl, _, by assumption, _, rfl, rfl⟩ rfl) ?_
        refine reg_quiet rfl (call_r (ev_is _) rfl rfl (arg_e arg_nil) (.inl rfl) (fun _ => rfl)) ?_
        refine reg_quiet rfl (step_C tab_ok (fun K hk => hk)) ?_
        refine reg_nil ?_
        refine seq_n ?_
        refine wc_cond rfl (fun hv => ?_) (fun hv => ?_)
        · have hv' : evB f = true := by cases h : evB f <;> simp_all
          have hr' : f.ref = true := by simpa [hv'] using hb3
          rw [hv'] at hsw
          rw [hv', hr'] at hstop
          refine wc_region ?_
          refine reg_quiet rfl (step_C tab_ok (fun K hk => hk)) ?_
          refine reg_quiet rfl (step_C tab_ok (fun K hk => hk)) ?_
          refine reg_quiet rfl (index_own tab_ok rfl rfl rfl rfl rfl (by omega) (by omega)) ?_
          refine reg_quiet rfl (step_C tab_ok (fun K hk => hk)) ?_
          refine reg_store (store_row tab_ok rfl rfl rfl ⟨rfl, f, { f with ref := false }, by assumption, ⟨_, ⟨rfl, rfl, rfl⟩, rfl⟩, rfl⟩ rfl) ?_
          refine reg_nil ?_
          refine seq_n ?_
          refine wc_region ?_
          refine reg_quiet rfl (step_C tab_ok (fun K hk => hk)) ?_
          refine reg_quiet rfl (step_C tab_ok (fun K hk => hk)) ?_
          refine reg_quiet rfl (len_arr tab_ok rfl rfl) ?_
          refine reg_quiet rfl (call_r (after_is m l.length (by omega) (by omega) (by omega) (by omega)) rfl rfl (arg_e (arg_e arg_nil)) (.inl rfl) (fun _ => rfl)) ?_
          refine reg_quiet rfl (step_C tab_ok (fun K hk => hk)) ?_
          refine reg_nil ?_
          refine blk_n ?_
          refine loop_n (k + 1) [] ?_ (by omega) ?_
          · intro j hj
            rcases Nat.lt_or_ge j k with h | h
            · exact hinv j h
            · rw [show j = k by omega, hstop]; rfl
          · exact .of rfl rfl rfl rfl rfl ⟨⟨_, rfl, .of_eq (by rw [hnext, hk1]; rfl)⟩, rfl, ⟨_, rfl, .refl _⟩, rfl, ⟨_, rfl, .refl _⟩, rfl, trivial⟩ ⟨⟨rfl, rfl, _, rfl, .of_eq (by rw [hsw]; rfl)⟩, trivial⟩
        · have hv' : evB f = false := by cases h : evB f <;> simp_all
          rw [hv'] at hsw hstop
          refine wc_skip ?_
          refine seq_n ?_
          refine wc_region ?_
          refine reg_quiet rfl (step_C tab_ok (fun K hk => hk)) ?_
          refine reg_quiet rfl (step_C tab_ok (fun K hk => hk)) ?_
          refine reg_quiet rfl (len_arr tab_ok rfl rfl) ?_
          refine reg_quiet rfl (call_r (after_is m l.length (by omega) (by omega) (by omega) (by omega)) rfl rfl (arg_e (arg_e arg_nil)) (.inl rfl) (fun _ => rfl)) ?_
          refine reg_quiet rfl (step_C tab_ok (fun K hk => hk)) ?_
          refine reg_nil ?_
          refine blk_n ?_
          refine loop_n (k + 1) [] ?_ (by omega) ?_
          · intro j hj
            rcases Nat.lt_or_ge j k with h | h
            · exact hinv j h
            · rw [show j = k by omega, hstop]; rfl
          · exact .of rfl rfl rfl rfl rfl ⟨⟨_, rfl, .of_eq (by rw [hnext, hk1]; rfl)⟩, rfl, ⟨_, rfl, .refl _⟩, rfl, ⟨_, rfl, .refl _⟩, rfl, trivial⟩ ⟨⟨rfl, rfl, _, rfl, .of_eq (by rw [hsw]; rfl)⟩, trivial⟩
      · have hv' : evB f = true := by cases h : evB f <;> simp_all
        have hr' : f.ref = false := by simpa [hv'] using hb3
        rw [hv', hr'] at hstop
        have hclk := clock_hit hev hinv hstop
        refine wc_exit ?_
        refine seq_x ?_
        refine loop_x ?_
        refine blk_x ?_
        refine seq_n ?_
        refine wc_seq ?_
        refine wc_region ?_
        refine reg_quiet rfl (step_C tab_ok (fun K hk => hk)) ?_
        refine reg_quiet rfl (step_C tab_ok (fun K hk => hk)) ?_
        refine reg_quiet rfl (step_C tab_ok (fun K hk => hk)) ?_
        refine reg_quiet rfl (step_C tab_ok (fun K hk => hk)) ?_
        refine reg_quiet rfl (len_arr tab_ok rfl rfl) ?_
        refine reg_quiet rfl (call_r (after_is m l.length (by omega) (by omega) (by omega) (by omega)) rfl rfl (arg_e (arg_e arg_nil)) (.inl rfl) (fun _ => rfl)) ?_
        refine reg_quiet rfl (step_C tab_ok (fun K hk => hk)) ?_
        refine reg_quiet rfl (step_C tab_ok (fun K hk => hk)) ?_
        refine reg_quiet rfl (step_C tab_ok (fun K hk => hk)) ?_
        refine reg_nil ?_
        refine seq_n ?_
        refine wc_ret ?_
        refine ⟨trivial, [], .of rfl rfl rfl rfl rfl ⟨⟨_, rfl, AVLe.of_eq ?_⟩, rfl, trivial⟩ ⟨⟨rfl, rfl, _, rfl, .of_eq ?_⟩, trivial⟩⟩
        · rw [hnext, vNext_len]; simp only [vAt, vAfter, hu', Bool.false_eq_true, if_false, hclk, hm]; rfl
        · simp only [vNext, hu', Bool.false_eq_true, if_false, hclk]; rfl
end Go.Proofs.Ytmdfeekpehcieaa

/- FramesVictim: the victim is that of the definition. -/
namespace Go.Proofs.Ytmdfeekpehcieaa
open Go.Eng
set_option maxHeartbeats 2000000
attribute [local irreducible] WC RegS RegD SeqQ BlkQ ScoQ RegK CutK Sat SatN FnIs LoopQ StepIs OpIs
theorem fidx_spec {α : Type} {p : α → Bool} {l : List α} (h : l.any p = true) : ∃ i f, fidx p l = (i : Nat) ∧ l[i]? = some f ∧ p f = true := by
  cases hx : l.findIdx? p with
  | none =>
    have := List.findIdx?_eq_none_iff.1 hx
    obtain ⟨f, hf, hp⟩ := List.any_eq_true.1 h
    rw [this f hf] at hp; cases hp
  | some i =>
    obtain ⟨hi, hp, _⟩ := List.findIdx?_eq_some_iff_getElem.1 hx
    exact ⟨i, l[i], by simp [fidx, hx], by simp [hi], hp⟩
/-- What is known of the victim. -/
theorem victim_facts {l : List Frame} {hand : Nat} (hh : hand < l.length) (hx : (l.any fun f => !f.used || evB f) = true) :
    ∃ i f g, vAt l hand = (i : Nat) ∧ i < l.length ∧ l[i]? = some f ∧ (vNext l hand)[i]? = some g ∧ (f.used = false ∨ f.used = true ∧ evB f = true ∧ g.ref = false) := by
  cases hu : l.any fun f => !f.used with
  | true =>
    obtain ⟨i, f, h1, h2, h3⟩ := fidx_spec hu
    refine ⟨i, f, f, by simp only [vAt, hu, if_true, h1], (List.getElem?_eq_some_iff.1 h2).1, h2, by simp only [vNext, hu, if_true, h2], .inl (by simpa using h3)⟩
  | false =>
    have hev : l.any evB = true := by
      obtain ⟨f, hf, hp⟩ := List.any_eq_true.1 hx
      have h2 := List.any_eq_false.1 hu f hf
      refine List.any_eq_true.2 ⟨f, hf, ?_⟩
      cases hfu : f.used <;> simp_all
    -- the clock stops
    have hex : ∃ k, stopB l hand k = true := by
      refine Classical.byContradiction fun hne => ?_
      have := clock_bound (k := 2 * l.length + 1) hev fun j _ => by
        cases h : stopB l hand j
        · rfl
        · exact absurd ⟨j, h⟩ hne
      omega
    obtain ⟨k, hk, hmin⟩ : ∃ k, stopB l hand k = true ∧ ∀ j, j < k → stopB l hand j = false := by
      obtain ⟨k0, hk0⟩ := hex
      induction k0 using Nat.strongRecOn with
      | _ k ih =>
        rcases Classical.em (∃ j, j < k ∧ stopB l hand j = true) with ⟨j, hj, hs⟩ | hno
        · exact ih j hj hs
        · refine ⟨k, hk0, fun j hj => ?_⟩
          cases h : stopB l hand j
          · rfl
          · exact absurd ⟨j, hj, h⟩ hno
    have hclk := clock_hit hev hmin hk
    have hm : (hand + k) % l.length < l.length := Nat.mod_lt _ (by omega)
    have hf : l[(hand + k) % l.length]? = some l[(hand + k) % l.length] := by simp [hm]
    have hs := sweep_at l hand _ _ hf k
    have hsb := stopB_of hs
    rw [hk] at hsb
    refine ⟨(hand + k) % l.length, _, _, by simp only [vAt, hu, Bool.false_eq_true, if_false, hclk], hm, hf, by simp only [vNext, hu, Bool.false_eq_true, if_false, hclk]; exact hs, .inr ⟨?_, ?_, ?_⟩⟩
    · have := List.any_eq_false.1 hu _ (List.mem_of_getElem? hf)
      simpa using this
    · revert hsb; split <;> simp_all [evB_ref]
    · revert hsb; split <;> simp_all
/-- Each frame behind Victim is the one that was there, but for Ref. -/
theorem next_facts {l : List Frame} {hand n : Nat} {f : Frame} (hf : l[n]? = some f) : ∃ g, (vNext l hand)[n]? = some g ∧ (g.ref && !f.ref) = false ∧ { g with ref := f.ref } = f := by
  unfold vNext
  split
  · exact ⟨f, hf, by simp, rfl⟩
  · rw [sweep_at l hand n f hf]
    split
    · exact ⟨_, rfl, rfl, rfl⟩
    · exact ⟨_, rfl, by simp, rfl⟩
theorem framesVictim_is (l : List Frame) (hand : Int) : FnIs Try.prog 3 [.d (.arr 40 encFrame l), .d (i6 hand)] [] (.bool true) [] := by
  refine fnIs_of tab_ok Try.func3 rfl rfl rfl ?_
  refine wc_seq ?_
  refine wc_region ?_
  refine reg_quiet rfl (step_C tab_ok (fun K hk => hk)) ?_
  refine reg_nil ?_
  refine seq_n ?_
  refine wc_seq ?_
  refine wc_seq ?_
  refine wc_region ?_
  refine reg_quiet rfl (step_C tab_ok (fun K hk => hk)) ?_
  refine reg_quiet rfl (len_arr tab_ok rfl rfl) ?_
  refine reg_quiet rfl (step_C tab_ok (fun K hk => hk)) ?_
  refine reg_nil ?_
  refine seq_n ?_
  refine wc_cond rfl (fun hb => ?_) (fun hb => ?_)
  · refine wc_seq ?_
    refine wc_region ?_
    refine reg_quiet rfl (call_r lives_is rfl rfl arg_nil (.inl rfl) (fun _ => rfl)) ?_
    refine reg_quiet rfl (step_C tab_ok (fun K hk => hk)) ?_
    refine reg_nil ?_
    refine seq_n ?_
    refine wc_ret ?_
    refine seq_r ?_
    exact ⟨trivial, [], .of rfl rfl rfl rfl rfl ⟨⟨_, rfl, AVLe.of_eq rfl⟩, rfl, trivial⟩ trivial⟩
  have hlen : l.length ≤ 1000000 := by have := of_decide_eq_false hb; omega
  cases hc : (decide (hand < 0) || decide (hand ≥ l.length)) with
  | true =>
    have hV := victim_arg l hand hc
    refine wc_skip ?_
    refine seq_n ?_
    refine wc_seq ?_
    refine wc_region ?_
    refine reg_quiet rfl (step_C tab_ok (fun K hk => hk)) ?_
    refine reg_quiet rfl (step_C tab_ok (fun K hk => hk)) ?_
    refine reg_quiet rfl (call_new hV rfl rfl (arg_e (arg_e arg_nil)) (.inl rfl) rfl rfl) ?_
    refine reg_quiet rfl (step_C tab_ok (fun K hk => hk)) ?_
    refine reg_quiet rfl (step_C tab_ok (fun K hk => hk)) ?_
    refine reg_quiet rfl (step_C tab_ok (fun K hk => hk)) ?_
    refine reg_quiet rfl (step_C tab_ok (fun K hk => hk)) ?_
    refine reg_quiet rfl (step_C tab_ok (fun K hk => hk)) ?_
    refine reg_quiet rfl (step_C tab_ok (fun K hk => hk)) ?_
    refine reg_quiet rfl (step_C tab_ok (fun K hk => hk)) ?_
    refine reg_quiet rfl (step_C tab_ok (fun K hk => hk)) ?_
    refine reg_quiet rfl (step_C tab_ok (fun K hk => hk)) ?_
    refine reg_nil ?_
    refine seq_n ?_
    refine wc_seq ?_
    refine wc_seq_cut 33 (.bool (decide ((hand : Int) < 0) || decide ((hand : Int) ≥ l.length))) _ rfl ?_ ?_
    · refine reg_quiet rfl (step_C tab_ok (fun K hk => hk)) ?_
      refine reg_quiet rfl (step_C tab_ok (fun K hk => hk)) ?_
      refine reg_quiet rfl (step_C tab_ok (fun K hk => hk)) ?_
      refine reg_split rfl rfl rfl (fun hb => ?_) (fun hb => ?_)
      refine reg_on rfl rfl (by assumption) ?_
      refine reg_quiet rfl (step_C tab_ok (fun K hk => hk)) ?_
      refine reg_on rfl rfl (by assumption) ?_
      refine reg_quiet rfl (step_C tab_ok (fun K hk => hk)) ?_
      refine reg_on rfl rfl (by assumption) ?_
      refine reg_quiet rfl (len_arr tab_ok rfl rfl) ?_
      refine reg_on rfl rfl (by assumption) ?_
      refine reg_quiet rfl (step_C tab_ok (fun K hk => hk)) ?_
      refine reg_quiet rfl (pick_F tab_ok rfl (by assumption) rfl) ?_
      rotate_left
      refine reg_skip rfl rfl (by assumption) rfl rfl ?_
      refine reg_skip rfl rfl (by assumption) rfl rfl ?_
      refine reg_skip rfl rfl (by assumption) rfl rfl ?_
      refine reg_skip rfl rfl (by assumption) rfl rfl ?_
      refine reg_quiet rfl (pick_T tab_ok rfl (by assumption) rfl) ?_
      rotate_left
      all_goals refine reg_cut 8 rfl rfl rfl rfl rfl rfl rfl rfl rfl (AVLe.of_eq ?_)
      all_goals (first | rfl | (simp_all; done) | (simp_all; omega))
    refine wc_true rfl (by assumption) ?_
    refine wc_seq ?_
    refine wc_region ?_
    refine reg_quiet rfl (step_C tab_ok (fun K hk => hk)) ?_
    refine reg_quiet rfl (step_C tab_ok (fun K hk => hk)) ?_
    refine reg_quiet rfl (step_C tab_ok (fun K hk => hk)) ?_
    refine reg_on rfl rfl rfl ?_
    refine reg_quiet rfl (step_C tab_ok (fun K hk => hk)) ?_
    refine reg_on rfl rfl rfl ?_
    refine reg_quiet rfl (step_C tab_ok (fun K hk => hk)) ?_
    refine reg_quiet rfl (pick_T tab_ok rfl rfl rfl) ?_
    refine reg_quiet rfl (step_C tab_ok (fun K hk => hk)) ?_
    refine reg_on rfl rfl rfl ?_
    refine reg_quiet rfl (step_C tab_ok (fun K hk => hk)) ?_
    refine reg_on rfl rfl rfl ?_
    refine reg_quiet rfl (step_C tab_ok (fun K hk => hk)) ?_
    refine reg_quiet rfl (pick_T tab_ok rfl rfl rfl) ?_
    refine reg_quiet rfl (step_C tab_ok (fun K hk => hk)) ?_
    refine reg_on rfl rfl rfl ?_
    refine reg_quiet rfl (step_C tab_ok (fun K hk => hk)) ?_
    refine reg_on rfl rfl rfl ?_
    refine reg_quiet rfl (len_nil tab_ok rfl rfl) ?_
    refine reg_on rfl rfl rfl ?_
    refine reg_quiet rfl (step_C tab_ok (fun K hk => hk)) ?_
    refine reg_quiet rfl (pick_T tab_ok rfl rfl rfl) ?_
    refine reg_quiet rfl (step_C tab_ok (fun K hk => hk)) ?_
    refine reg_on rfl rfl rfl ?_
    refine reg_quiet rfl (call_r lives_is rfl rfl arg_nil (.inl rfl) (fun _ => rfl)) ?_
    refine reg_quiet rfl (pick_T tab_ok rfl rfl rfl) ?_
    refine reg_quiet rfl (step_C tab_ok (fun K hk => hk)) ?_
    refine reg_nil ?_
    refine seq_n ?_
    refine wc_ret ?_
    refine seq_r ?_
    exact ⟨trivial, [], .of rfl rfl rfl rfl rfl ⟨⟨_, rfl, AVLe.of_eq rfl⟩, rfl, trivial⟩ trivial⟩
  | false =>
  cases hx : l.any fun f => !f.used || evB f with
  | false =>
    have hx' : (!l.any fun f => !f.used || evB f) = true := by rw [hx]; rfl
    have hE : decide ((if (l.any fun f => !f.used || evB f) = true then (1 : Int) else 0) = 0) = true := by rw [hx]; rfl
    have hV := victim_none l hand hlen hc hx'
    refine wc_skip ?_
    refine seq_n ?_
    refine wc_seq ?_
    refine wc_region ?_
    refine reg_quiet rfl (step_C tab_ok (fun K hk => hk)) ?_
    refine reg_quiet rfl (step_C tab_ok (fun K hk => hk)) ?_
    refine reg_quiet rfl (call_new hV rfl rfl (arg_e (arg_e arg_nil)) (.inl rfl) rfl rfl) ?_
    refine reg_quiet rfl (step_C tab_ok (fun K hk => hk)) ?_
    refine reg_quiet rfl (step_C tab_ok (fun K hk => hk)) ?_
    refine reg_quiet rfl (step_C tab_ok (fun K hk => hk)) ?_
    refine reg_quiet rfl (step_C tab_ok (fun K hk => hk)) ?_
    refine reg_quiet rfl (step_C tab_ok (fun K hk => hk)) ?_
    refine reg_quiet rfl (step_C tab_ok (fun K hk => hk)) ?_
    refine reg_quiet rfl (step_C tab_ok (fun K hk => hk)) ?_
    refine reg_quiet rfl (step_C tab_ok (fun K hk => hk)) ?_
    refine reg_quiet rfl (step_C tab_ok (fun K hk => hk)) ?_
    refine reg_nil ?_
    refine seq_n ?_
    refine wc_seq ?_
    refine wc_seq_cut 33 (.bool (decide ((hand : Int) < 0) || decide ((hand : Int) ≥ l.length))) _ rfl ?_ ?_
    · refine reg_quiet rfl (step_C tab_ok (fun K hk => hk)) ?_
      refine reg_quiet rfl (step_C tab_ok (fun K hk => hk)) ?_
      refine reg_quiet rfl (step_C tab_ok (fun K hk => hk)) ?_
      refine reg_split rfl rfl rfl (fun hb => ?_) (fun hb => ?_)
      refine reg_on rfl rfl (by assumption) ?_
      refine reg_quiet rfl (step_C tab_ok (fun K hk => hk)) ?_
      refine reg_on rfl rfl (by assumption) ?_
      refine reg_quiet rfl (step_C tab_ok (fun K hk => hk)) ?_
      refine reg_on rfl rfl (by assumption) ?_
      refine reg_quiet rfl (len_arr tab_ok rfl rfl) ?_
      refine reg_on rfl rfl (by assumption) ?_
      refine reg_quiet rfl (step_C tab_ok (fun K hk => hk)) ?_
      refine reg_quiet rfl (pick_F tab_ok rfl (by assumption) rfl) ?_
      rotate_left
      refine reg_skip rfl rfl (by assumption) rfl rfl ?_
      refine reg_skip rfl rfl (by assumption) rfl rfl ?_
      refine reg_skip rfl rfl (by assumption) rfl rfl ?_
      refine reg_skip rfl rfl (by assumption) rfl rfl ?_
      refine reg_quiet rfl (pick_T tab_ok rfl (by assumption) rfl) ?_
      rotate_left
      all_goals refine reg_cut 8 rfl rfl rfl rfl rfl rfl rfl rfl rfl (AVLe.of_eq ?_)
      all_goals (first | rfl | (simp_all; done) | (simp_all; omega))
    refine wc_false rfl (by assumption) ?_
    refine wc_skip ?_
    refine seq_n ?_
    refine wc_seq ?_
    refine wc_seq ?_
    refine wc_region ?_
    refine reg_quiet rfl (step_C tab_ok (fun K hk => hk)) ?_
    refine reg_quiet rfl (call_r (exists_is l hlen) rfl rfl (arg_e arg_nil) (.inl rfl) (fun _ => rfl)) ?_
    refine reg_quiet rfl (step_C tab_ok (fun K hk => hk)) ?_
    refine reg_nil ?_
    refine seq_n ?_
    refine wc_true rfl (by assumption) ?_
    refine wc_seq ?_
    refine wc_region ?_
    refine reg_quiet rfl (step_C tab_ok (fun K hk => hk)) ?_
    refine reg_quiet rfl (step_C tab_ok (fun K hk => hk)) ?_
    refine reg_quiet rfl (step_C tab_ok (fun K hk => hk)) ?_
    refine reg_on rfl rfl rfl ?_
    refine reg_quiet rfl (step_C tab_ok (fun K hk => hk)) ?_
    refine reg_on rfl rfl rfl ?_
    refine reg_quiet rfl (step_C tab_ok (fun K hk => hk)) ?_
    refine reg_quiet rfl (pick_T tab_ok rfl rfl rfl) ?_
    refine reg_quiet rfl (step_C tab_ok (fun K hk => hk)) ?_
    refine reg_on rfl rfl rfl ?_
    refine reg_quiet rfl (step_C tab_ok (fun K hk => hk)) ?_
    refine reg_on rfl rfl rfl ?_
    refine reg_quiet rfl (step_C tab_ok (fun K hk => hk)) ?_
    refine reg_quiet rfl (pick_T tab_ok rfl rfl rfl) ?_
    refine reg_quiet rfl (step_C tab_ok (fun K hk => hk)) ?_
    refine reg_on rfl rfl rfl ?_
    refine reg_quiet rfl (step_C tab_ok (fun K hk => hk)) ?_
    refine reg_on rfl rfl rfl ?_
    refine reg_quiet rfl (len_nil tab_ok rfl rfl) ?_
    refine reg_on rfl rfl rfl ?_
    refine reg_quiet rfl (step_C tab_ok (fun K hk => hk)) ?_
    refine reg_quiet rfl (pick_T tab_ok rfl rfl rfl) ?_
    refine reg_quiet rfl (step_C tab_ok (fun K hk => hk)) ?_
    refine reg_on rfl rfl rfl ?_
    refine reg_quiet rfl (step_C tab_ok (fun K hk => hk)) ?_
    refine reg_on rfl rfl rfl ?_
    refine reg_quiet rfl (call_r (refexists_is l hlen) rfl rfl (arg_e arg_nil) (.inl rfl) (fun _ => rfl)) ?_
    refine reg_on rfl rfl rfl ?_
    refine reg_quiet rfl (step_C tab_ok (fun K hk => hk)) ?_
    refine reg_quiet rfl (pick_T tab_ok rfl rfl rfl) ?_
    refine reg_quiet rfl (step_C tab_ok (fun K hk => hk)) ?_
    refine reg_on rfl rfl (by assumption) ?_
    refine reg_quiet rfl (call_r lives_is rfl rfl arg_nil (.inl rfl) (fun _ => rfl)) ?_
    refine reg_quiet rfl (pick_T tab_ok rfl (by assumption) rfl) ?_
    refine reg_quiet rfl (step_C tab_ok (fun K hk => hk)) ?_
    refine reg_nil ?_
    refine seq_n ?_
    refine wc_ret ?_
    refine seq_r ?_
    exact ⟨trivial, [], .of rfl rfl rfl rfl rfl ⟨⟨_, rfl, AVLe.of_eq rfl⟩, rfl, trivial⟩ trivial⟩
  | true =>
    have hx' : (!l.any fun f => !f.used || evB f) = false := by rw [hx]; rfl
    obtain ⟨hn, hhn⟩ : ∃ n : Nat, (n : Int) = hand := ⟨hand.toNat, by rw [Bool.or_eq_false_iff] at hc; have := of_decide_eq_false hc.1; omega⟩
    have hh : hn < l.length := by rw [Bool.or_eq_false_iff] at hc; have := of_decide_eq_false hc.2; omega
    have hV := victim_ok l hn hlen hh hx
    have hR := refvictim_is l hn hlen hh hx
    rw [show i6 (hn : Int) = i6 hand by rw [hhn]] at hV hR
    have hS := refsame_is (vNext l hn) (vNext l hn) (by rw [vNext_len]; exact hlen) (by rw [vNext_len]; exact hlen)
    rw [decide_eq_true rfl, if_pos rfl] at hS
    have hA1 : (!decide (vAt l hn = vAt l hn)) = false := by simp
    have hA2 : (!decide (vAfter l hn = vAfter l hn)) = false := by simp
    have hC : (!decide (((vNext l hn).length : Int) = ((vNext l hn).length : Int))) = false := by simp
    obtain ⟨i, f, g, hi, hil, hf, hg, hor⟩ := victim_facts hh hx
    have hi0 : 0 ≤ vAt l hn := by omega
    have hi1 : vAt l hn < l.length := by omega
    have hi2 : vAt l hn < (vNext l hn).length := by rw [vNext_len]; omega
    have hf' : l[(vAt l hn).toNat]? = some f := by rw [hi, Int.toNat_natCast]; exact hf
    have hg' : (vNext l hn)[(vAt l hn).toNat]? = some g := by rw [hi, Int.toNat_natCast]; exact hg
    rcases hor with hfu | ⟨hfu, hfe, hgr⟩
    · skip
      refine wc_skip ?_
      refine seq_n ?_
      refine wc_seq ?_
      refine wc_region ?_
      refine reg_quiet rfl (step_C tab_ok (fun K hk => hk)) ?_
      refine reg_quiet rfl (step_C tab_ok (fun K hk => hk)) ?_
      refine reg_new (call_new hV rfl rfl (arg_e (arg_e arg_nil)) (.inl rfl) rfl rfl) rfl ?_
      refine reg_quiet rfl (step_C tab_ok (fun K hk => hk)) ?_
      refine reg_quiet rfl (step_C tab_ok (fun K hk => hk)) ?_
      refine reg_quiet rfl (step_C tab_ok (fun K hk => hk)) ?_
      refine reg_quiet rfl (step_C tab_ok (fun K hk => hk)) ?_
      refine reg_quiet rfl (step_C tab_ok (fun K hk => hk)) ?_
      refine reg_quiet rfl (step_C tab_ok (fun K hk => hk)) ?_
      refine reg_quiet rfl (step_C tab_ok (fun K hk => hk)) ?_
      refine reg_quiet rfl (step_C tab_ok (fun K hk => hk)) ?_
      refine reg_quiet rfl (step_C tab_ok (fun K hk => hk)) ?_
      refine reg_nil ?_
      refine seq_n ?_
      refine wc_seq ?_
      refine wc_seq_cut 33 (.bool (decide ((hand : Int) < 0) || decide ((hand : Int) ≥ l.length))) _ rfl ?_ ?_
      · refine reg_quiet rfl (step_C tab_ok (fun K hk => hk)) ?_
        refine reg_quiet rfl (step_C tab_ok (fun K hk => hk)) ?_
        refine reg_quiet rfl (step_C tab_ok (fun K hk => hk)) ?_
        refine reg_split rfl rfl rfl (fun hb => ?_) (fun hb => ?_)
        refine reg_on rfl rfl (by assumption) ?_
        refine reg_quiet rfl (step_C tab_ok (fun K hk => hk)) ?_
        refine reg_on rfl rfl (by assumption) ?_
        refine reg_quiet rfl (step_C tab_ok (fun K hk => hk)) ?_
        refine reg_on rfl rfl (by assumption) ?_
        refine reg_quiet rfl (len_arr tab_ok rfl rfl) ?_
        refine reg_on rfl rfl (by assumption) ?_
        refine reg_quiet rfl (step_C tab_ok (fun K hk => hk)) ?_
        refine reg_quiet rfl (pick_F tab_ok rfl (by assumption) rfl) ?_
        rotate_left
        refine reg_skip rfl rfl (by assumption) rfl rfl ?_
        refine reg_skip rfl rfl (by assumption) rfl rfl ?_
        refine reg_skip rfl rfl (by assumption) rfl rfl ?_
        refine reg_skip rfl rfl (by assumption) rfl rfl ?_
        refine reg_quiet rfl (pick_T tab_ok rfl (by assumption) rfl) ?_
        rotate_left
        all_goals refine reg_cut 8 rfl rfl rfl rfl rfl rfl rfl rfl rfl (AVLe.of_eq ?_)
        all_goals (first | rfl | (simp_all; done) | (simp_all; omega))
      refine wc_false rfl (by assumption) ?_
      refine wc_skip ?_
      refine seq_n ?_
      refine wc_seq ?_
      refine wc_seq ?_
      refine wc_region ?_
      refine reg_quiet rfl (step_C tab_ok (fun K hk => hk)) ?_
      refine reg_quiet rfl (call_r (exists_is l hlen) rfl rfl (arg_e arg_nil) (.inl rfl) (fun _ => rfl)) ?_
      refine reg_quiet rfl (step_C tab_ok (fun K hk => hk)) ?_
      refine reg_nil ?_
      refine seq_n ?_
      refine wc_false rfl (by assumption) ?_
      refine wc_skip ?_
      refine seq_n ?_
      refine wc_seq ?_
      refine wc_region ?_
      refine reg_quiet rfl (step_C tab_ok (fun K hk => hk)) ?_
      refine reg_quiet rfl (step_C tab_ok (fun K hk => hk)) ?_
      refine reg_new (call_new hR rfl rfl (arg_e (arg_e arg_nil)) (.inl rfl) rfl rfl) rfl ?_
      refine reg_quiet rfl (step_C tab_ok (fun K hk => hk)) ?_
      refine reg_quiet rfl (step_C tab_ok (fun K hk => hk)) ?_
      refine reg_quiet rfl (step_C tab_ok (fun K hk => hk)) ?_
      refine reg_quiet rfl (step_C tab_ok (fun K hk => hk)) ?_
      refine reg_quiet rfl (step_C tab_ok (fun K hk => hk)) ?_
      refine reg_quiet rfl (step_C tab_ok (fun K hk => hk)) ?_
      refine reg_quiet rfl (step_C tab_ok (fun K hk => hk)) ?_
      refine reg_nil ?_
      refine seq_n ?_
      refine wc_seq ?_
      refine wc_seq ?_
      refine wc_region ?_
      refine reg_quiet rfl (step_C tab_ok (fun K hk => hk)) ?_
      refine reg_quiet rfl (step_C tab_ok (fun K hk => hk)) ?_
      refine reg_quiet rfl (step_C tab_ok (fun K hk => hk)) ?_
      refine reg_on rfl rfl rfl ?_
      refine reg_quiet rfl (step_C tab_ok (fun K hk => hk)) ?_
      refine reg_on rfl rfl rfl ?_
      refine reg_quiet rfl (step_C tab_ok (fun K hk => hk)) ?_
      refine reg_on rfl rfl rfl ?_
      refine reg_quiet rfl (step_C tab_ok (fun K hk => hk)) ?_
      refine reg_quiet rfl (pick_F tab_ok rfl rfl rfl) ?_
      refine reg_quiet rfl (step_C tab_ok (fun K hk => hk)) ?_
      refine reg_on rfl rfl (by assumption) ?_
      refine reg_quiet rfl (step_C tab_ok (fun K hk => hk)) ?_
      refine reg_on rfl rfl (by assumption) ?_
      refine reg_quiet rfl (step_C tab_ok (fun K hk => hk)) ?_
      refine reg_on rfl rfl (by assumption) ?_
      refine reg_quiet rfl (step_C tab_ok (fun K hk => hk)) ?_
      refine reg_quiet rfl (pick_F tab_ok rfl (by assumption) rfl) ?_
      refine reg_quiet rfl (step_C tab_ok (fun K hk => hk)) ?_
      refine reg_on rfl rfl (by assumption) ?_
      refine reg_quiet rfl (step_C tab_ok (fun K hk => hk)) ?_
      refine reg_on rfl rfl (by assumption) ?_
      refine reg_quiet rfl (step_C tab_ok (fun K hk => hk)) ?_
      refine reg_on rfl rfl (by assumption) ?_
      refine reg_quiet rfl (call_r hS rfl rfl (arg_own rfl (arg_own rfl arg_nil)) (.inr (PlainRes.sc _)) (fun _ => rfl)) ?_
      refine reg_on rfl rfl (by assumption) ?_
      refine reg_quiet rfl (step_C tab_ok (fun K hk => hk)) ?_
      refine reg_quiet rfl (pick_F tab_ok rfl (by assumption) rfl) ?_
      refine reg_quiet rfl (step_C tab_ok (fun K hk => hk)) ?_
      refine reg_on rfl rfl rfl ?_
      refine reg_quiet rfl (step_C tab_ok (fun K hk => hk)) ?_
      refine reg_on rfl rfl rfl ?_
      refine reg_quiet rfl (cap_exact tab_ok rfl rfl rfl) ?_
      refine reg_on rfl rfl rfl ?_
      refine reg_quiet rfl (step_C tab_ok (fun K hk => hk)) ?_
      refine reg_on rfl rfl rfl ?_
      refine reg_quiet rfl (len_own tab_ok rfl rfl) ?_
      refine reg_on rfl rfl rfl ?_
      refine reg_quiet rfl (step_C tab_ok (fun K hk => hk)) ?_
      refine reg_quiet rfl (pick_F tab_ok rfl rfl rfl) ?_
      refine reg_nil ?_
      refine seq_n ?_
      refine wc_false rfl (by assumption) ?_
      refine wc_skip ?_
      refine seq_n ?_
      refine wc_seq ?_
      refine wc_seq ?_
      refine wc_region ?_
      refine reg_quiet rfl (step_C tab_ok (fun K hk => hk)) ?_
      refine reg_quiet rfl (step_C tab_ok (fun K hk => hk)) ?_
      refine reg_quiet rfl (index_arr tab_ok rfl rfl rfl rfl rfl (by omega) (by assumption)) ?_
      refine reg_quiet rfl (step_C tab_ok (fun K hk => hk)) ?_
      refine reg_quiet rfl (load_i tab_ok rfl rfl) ?_
      refine reg_quiet rfl (step_C tab_ok (fun K hk => hk)) ?_
      refine reg_skip rfl rfl (by assumption) rfl rfl ?_
      refine reg_skip rfl rfl (by assumption) rfl rfl ?_
      refine reg_skip rfl rfl (by assumption) rfl rfl ?_
      refine reg_skip rfl rfl (by assumption) rfl rfl ?_
      refine reg_skip rfl rfl (by assumption) rfl rfl ?_
      refine reg_skip rfl rfl (by assumption) rfl rfl ?_
      refine reg_skip rfl rfl (by assumption) rfl rfl ?_
      refine reg_skipU rfl rfl rfl rfl ?_
      refine reg_skipU rfl rfl rfl rfl ?_
      refine reg_skipU rfl rfl rfl rfl ?_
      refine reg_skipU rfl rfl rfl rfl ?_
      refine reg_skipU rfl rfl rfl rfl ?_
      refine reg_skip rfl rfl (by assumption) rfl rfl ?_
      refine reg_quiet rfl (pick_F tab_ok rfl (by assumption) rfl) ?_
      refine reg_nil ?_
      refine seq_n ?_
      refine wc_false rfl rfl ?_
      refine wc_skip ?_
      refine seq_n ?_
      refine wc_seq ?_
      refine wc_seq ?_
      refine wc_region ?_
      refine reg_quiet rfl (step_C tab_ok (fun K hk => hk)) ?_
      refine reg_nil ?_
      refine seq_n ?_
      refine wc_block ?_
      refine wc_inv (fun n : Nat => ⟨[(12, .int .i64 n), (6, .own 64 0 (vNext l hn).length 40 none), (0, .d (.arr 40 encFrame l))], [(64, some (.ds 39 40 true encFrame (vNext l hn)))], 72, Try.f3.ntmps, 64⟩) (fun n => n ≤ l.length) (fun n => l.length - n) 0 [(64, some 112)] (Nat.zero_le _)
        (.of rfl rfl rfl rfl rfl ⟨⟨_, rfl, .refl _⟩, rfl, ⟨_, rfl, .refl _⟩, rfl, ⟨_, rfl, .refl _⟩, rfl, trivial⟩ ⟨⟨rfl, rfl, _, rfl, .refl _⟩, trivial⟩) ?_
      clear hf hg hf' hg' hfu hi1 hi2 hi hil f g
      intro n hnl
      have hnl2 : (vNext l hn).length = l.length := vNext_len l hn
      refine wc_of ?_
      refine wc_seq ?_
      refine wc_seq ?_
      refine wc_region ?_
      refine reg_quiet rfl (step_C tab_ok (fun K hk => hk)) ?_
      refine reg_quiet rfl (step_C tab_ok (fun K hk => hk)) ?_
      refine reg_quiet rfl (len_arr tab_ok rfl rfl) ?_
      refine reg_quiet rfl (step_C tab_ok (fun K hk => hk)) ?_
      refine reg_nil ?_
      refine seq_n ?_
      refine wc_cond rfl (fun hb1 => ?_) (fun hb1 => ?_)
      · have hlt : n < l.length := by have := of_decide_eq_true hb1; omega
        obtain ⟨f, hf⟩ : ∃ f, l[n]? = some f := ⟨_, List.getElem?_eq_getElem hlt⟩
        obtain ⟨g, hg, hgf, hgs⟩ := next_facts (hand := hn) hf
        have hf' : l[((n : Int)).toNat]? = some f := by rw [Int.toNat_natCast]; exact hf
        have hg' : (vNext l hn)[((n : Int)).toNat]? = some g := by rw [Int.toNat_natCast]; exact hg
        have heq : (!decide (({ g with ref := f.ref } : Frame) = f)) = false := by rw [decide_eq_true hgs]; rfl
        refine wc_skip ?_
        refine seq_n ?_
        refine wc_seq ?_
        refine wc_block ?_
        refine wc_seq ?_
        refine wc_region ?_
        refine reg_quiet rfl (step_C tab_ok (fun K hk => hk)) ?_
        refine reg_quiet rfl (step_C tab_ok (fun K hk => hk)) ?_
        refine reg_quiet rfl (index_own tab_ok rfl rfl rfl rfl rfl (by omega) (by omega)) ?_
        refine reg_quiet rfl (load_row tab_ok rfl rfl ⟨rfl, _, by assumption, _, rfl, rfl⟩ rfl) ?_
        refine reg_new (step_C tab_ok (fun K hk => hk)) rfl ?_
        refine reg_store (store_row tab_ok rfl rfl rfl ⟨_, ⟨rfl, rfl, rfl⟩, rfl⟩ rfl) ?_
        refine reg_nil ?_
        refine seq_n ?_
        refine wc_seq ?_
        refine wc_seq_cut 149 (.bool (g.ref && !f.ref)) _ rfl ?_ ?_
        · refine reg_quiet rfl (step_C tab_ok (fun K hk => hk)) ?_
          refine reg_quiet rfl (load_box tab_ok rfl rfl ⟨_, rfl, rfl⟩ rfl) ?_
          refine reg_quiet rfl (step_C tab_ok (fun K hk => hk)) ?_
          refine reg_split rfl rfl rfl (fun hb => ?_) (fun hb => ?_)
          refine reg_on rfl rfl (by assumption) ?_
          refine reg_quiet rfl (step_C tab_ok (fun K hk => hk)) ?_
          refine reg_on rfl rfl (by assumption) ?_
          refine reg_quiet rfl (step_C tab_ok (fun K hk => hk)) ?_
          refine reg_on rfl rfl (by assumption) ?_
          refine reg_quiet rfl (index_arr tab_ok rfl rfl rfl rfl rfl (by omega) (by assumption)) ?_
          refine reg_on rfl rfl (by assumption) ?_
          refine reg_quiet rfl (step_C tab_ok (fun K hk => hk)) ?_
          refine reg_on rfl rfl (by assumption) ?_
          refine reg_quiet rfl (load_i tab_ok rfl rfl) ?_
          refine reg_on rfl rfl (by assumption) ?_
          refine reg_quiet rfl (step_C tab_ok (fun K hk => hk)) ?_
          refine reg_quiet rfl (pick_T tab_ok rfl (by assumption) rfl) ?_
          rotate_left
          refine reg_skip rfl rfl (by assumption) rfl rfl ?_
          refine reg_skip rfl rfl (by assumption) rfl rfl ?_
          refine reg_skip rfl rfl (by assumption) rfl rfl ?_
          refine reg_skip rfl rfl (by assumption) rfl rfl ?_
          refine reg_skip rfl rfl (by assumption) rfl rfl ?_
          refine reg_skip rfl rfl (by assumption) rfl rfl ?_
          refine reg_quiet rfl (pick_F tab_ok rfl (by assumption) rfl) ?_
          rotate_left
          all_goals refine reg_cut 10 rfl rfl rfl rfl rfl rfl rfl rfl rfl (AVLe.of_eq ?_)
          all_goals (first | rfl | (simp_all; done) | (simp_all; omega))
        refine wc_false rfl (by assumption) ?_
        refine wc_skip ?_
        refine seq_n ?_
        refine wc_seq ?_
        refine wc_region ?_
        refine reg_quiet rfl (step_C tab_ok (fun K hk => hk)) ?_
        refine reg_quiet rfl (step_C tab_ok (fun K hk => hk)) ?_
        refine reg_quiet rfl (index_arr tab_ok rfl rfl rfl rfl rfl (by omega) (by assumption)) ?_
        refine reg_quiet rfl (step_C tab_ok (fun K hk => hk)) ?_
        refine reg_quiet rfl (load_i tab_ok rfl rfl) ?_
        refine reg_quiet rfl (step_C tab_ok (fun K hk => hk)) ?_
        refine reg_store (store_row tab_ok rfl rfl rfl ⟨_, ⟨_, ⟨_, ⟨rfl, rfl, rfl⟩, rfl⟩, rfl⟩, rfl⟩ rfl) ?_
        refine reg_nil ?_
        refine seq_n ?_
        refine wc_seq ?_
        refine wc_draw (by kernel_rfl) ?_
        refine dreg_step rfl (load_box tab_ok rfl rfl rfl rfl) rfl rfl ?_
        refine dreg_step rfl (step_C tab_ok (fun K hk => hk)) rfl rfl ?_
        refine dreg_step rfl (step_C tab_ok (fun K hk => hk)) rfl rfl ?_
        refine dreg_step rfl (index_arr tab_ok rfl rfl rfl rfl rfl (by omega) (by assumption)) rfl rfl ?_
        refine dreg_step rfl (load_i tab_ok rfl rfl) rfl rfl ?_
        refine dreg_step rfl (neq_data rfl rfl rfl rfl (by kernel_rfl) (by decide) (frame_eq { g with ref := f.ref } f)) rfl rfl ?_
        refine dreg_nil (by kernel_rfl) ?_
        refine seq_n ?_
        refine wc_false rfl (by assumption) ?_
        refine wc_skip ?_
        refine blk_n ?_
        refine seq_n ?_
        refine wc_region ?_
        refine reg_quiet rfl (step_C tab_ok (fun K hk => hk)) ?_
        refine reg_quiet rfl (add_int tab_ok rfl rfl (wrap_i64 (by omega) (by omega))) ?_
        refine reg_quiet rfl (step_C tab_ok (fun K hk => hk)) ?_
        refine reg_nil ?_
        refine loop_n (n + 1) [] hlt (by omega) ?_
        exact .of rfl rfl rfl rfl rfl ⟨⟨_, rfl, .refl _⟩, rfl, ⟨_, rfl, .refl _⟩, rfl, ⟨_, rfl, .refl _⟩, rfl, trivial⟩ ⟨⟨rfl, rfl, _, rfl, .refl _⟩, trivial⟩
      · refine wc_exit ?_
        refine seq_x ?_
        refine loop_x ?_
        refine blk_x ?_
        refine seq_n ?_
        refine wc_seq ?_
        refine wc_region ?_
        refine reg_quiet rfl (call_r lives_is rfl rfl arg_nil (.inl rfl) (fun _ => rfl)) ?_
        refine reg_quiet rfl (step_C tab_ok (fun K hk => hk)) ?_
        refine reg_nil ?_
        refine seq_n ?_
        refine wc_ret ?_
        exact ⟨trivial, [], .of rfl rfl rfl rfl rfl ⟨⟨_, rfl, AVLe.of_eq rfl⟩, rfl, trivial⟩ trivial⟩
    · have hE0 : decide ((if evB f = true then (1 : Int) else 0) = 0) = false := by rw [hfe]; rfl
      refine wc_skip ?_
      refine seq_n ?_
      refine wc_seq ?_
      refine wc_region ?_
      refine reg_quiet rfl (step_C tab_ok (fun K hk => hk)) ?_
      refine reg_quiet rfl (step_C tab_ok (fun K hk => hk)) ?_
      refine reg_new (call_new hV rfl rfl (arg_e (arg_e arg_nil)) (.inl rfl) rfl rfl) rfl ?_
      refine reg_quiet rfl (step_C tab_ok (fun K hk => hk)) ?_
      refine reg_quiet rfl (step_C tab_ok (fun K hk => hk)) ?_
      refine reg_quiet rfl (step_C tab_ok (fun K hk => hk)) ?_
      refine reg_quiet rfl (step_C tab_ok (fun K hk => hk)) ?_
      refine reg_quiet rfl (step_C tab_ok (fun K hk => hk)) ?_
      refine reg_quiet rfl (step_C tab_ok (fun K hk => hk)) ?_
      refine reg_quiet rfl (step_C tab_ok (fun K hk => hk)) ?_
      refine reg_quiet rfl (step_C tab_ok (fun K hk => hk)) ?_
      refine reg_quiet rfl (step_C tab_ok (fun K hk => hk)) ?_
      refine reg_nil ?_
      refine seq_n ?_
      refine wc_seq ?_
      refine wc_seq_cut 33 (.bool (decide ((hand : Int) < 0) || decide ((hand : Int) ≥ l.length))) _ rfl ?_ ?_
      · refine reg_quiet rfl (step_C tab_ok (fun K hk => hk)) ?_
        refine reg_quiet rfl (step_C tab_ok (fun K hk => hk)) ?_
        refine reg_quiet rfl (step_C tab_ok (fun K hk => hk)) ?_
        refine reg_split rfl rfl rfl (fun hb => ?_) (fun hb => ?_)
        refine reg_on rfl rfl (by assumption) ?_
        refine reg_quiet rfl (step_C tab_ok (fun K hk => hk)) ?_
        refine reg_on rfl rfl (by assumption) ?_
        refine reg_quiet rfl (step_C tab_ok (fun K hk => hk)) ?_
        refine reg_on rfl rfl (by assumption) ?_
        refine reg_quiet rfl (len_arr tab_ok rfl rfl) ?_
        refine reg_on rfl rfl (by assumption) ?_
        refine reg_quiet rfl (step_C tab_ok (fun K hk => hk)) ?_
        refine reg_quiet rfl (pick_F tab_ok rfl (by assumption) rfl) ?_
        rotate_left
        refine reg_skip rfl rfl (by assumption) rfl rfl ?_
        refine reg_skip rfl rfl (by assumption) rfl rfl ?_
        refine reg_skip rfl rfl (by assumption) rfl rfl ?_
        refine reg_skip rfl rfl (by assumption) rfl rfl ?_
        refine reg_quiet rfl (pick_T tab_ok rfl (by assumption) rfl) ?_
        rotate_left
        all_goals refine reg_cut 8 rfl rfl rfl rfl rfl rfl rfl rfl rfl (AVLe.of_eq ?_)
        all_goals (first | rfl | (simp_all; done) | (simp_all; omega))
      refine wc_false rfl (by assumption) ?_
      refine wc_skip ?_
      refine seq_n ?_
      refine wc_seq ?_
      refine wc_seq ?_
      refine wc_region ?_
      refine reg_quiet rfl (step_C tab_ok (fun K hk => hk)) ?_
      refine reg_quiet rfl (call_r (exists_is l hlen) rfl rfl (arg_e arg_nil) (.inl rfl) (fun _ => rfl)) ?_
      refine reg_quiet rfl (step_C tab_ok (fun K hk => hk)) ?_
      refine reg_nil ?_
      refine seq_n ?_
      refine wc_false rfl (by assumption) ?_
      refine wc_skip ?_
      refine seq_n ?_
      refine wc_seq ?_
      refine wc_region ?_
      refine reg_quiet rfl (step_C tab_ok (fun K hk => hk)) ?_
      refine reg_quiet rfl (step_C tab_ok (fun K hk => hk)) ?_
      refine reg_new (call_new hR rfl rfl (arg_e (arg_e arg_nil)) (.inl rfl) rfl rfl) rfl ?_
      refine reg_quiet rfl (step_C tab_ok (fun K hk => hk)) ?_
      refine reg_quiet rfl (step_C tab_ok (fun K hk => hk)) ?_
      refine reg_quiet rfl (step_C tab_ok (fun K hk => hk)) ?_
      refine reg_quiet rfl (step_C tab_ok (fun K hk => hk)) ?_
      refine reg_quiet rfl (step_C tab_ok (fun K hk => hk)) ?_
      refine reg_quiet rfl (step_C tab_ok (fun K hk => hk)) ?_
      refine reg_quiet rfl (step_C tab_ok (fun K hk => hk)) ?_
      refine reg_nil ?_
      refine seq_n ?_
      refine wc_seq ?_
      refine wc_seq ?_
      refine wc_region ?_
      refine reg_quiet rfl (step_C tab_ok (fun K hk => hk)) ?_
      refine reg_quiet rfl (step_C tab_ok (fun K hk => hk)) ?_
      refine reg_quiet rfl (step_C tab_ok (fun K hk => hk)) ?_
      refine reg_on rfl rfl rfl ?_
      refine reg_quiet rfl (step_C tab_ok (fun K hk => hk)) ?_
      refine reg_on rfl rfl rfl ?_
      refine reg_quiet rfl (step_C tab_ok (fun K hk => hk)) ?_
      refine reg_on rfl rfl rfl ?_
      refine reg_quiet rfl (step_C tab_ok (fun K hk => hk)) ?_
      refine reg_quiet rfl (pick_F tab_ok rfl rfl rfl) ?_
      refine reg_quiet rfl (step_C tab_ok (fun K hk => hk)) ?_
      refine reg_on rfl rfl (by assumption) ?_
      refine reg_quiet rfl (step_C tab_ok (fun K hk => hk)) ?_
      refine reg_on rfl rfl (by assumption) ?_
      refine reg_quiet rfl (step_C tab_ok (fun K hk => hk)) ?_
      refine reg_on rfl rfl (by assumption) ?_
      refine reg_quiet rfl (step_C tab_ok (fun K hk => hk)) ?_
      refine reg_quiet rfl (pick_F tab_ok rfl (by assumption) rfl) ?_
      refine reg_quiet rfl (step_C tab_ok (fun K hk => hk)) ?_
      refine reg_on rfl rfl (by assumption) ?_
      refine reg_quiet rfl (step_C tab_ok (fun K hk => hk)) ?_
      refine reg_on rfl rfl (by assumption) ?_
      refine reg_quiet rfl (step_C tab_ok (fun K hk => hk)) ?_
      refine reg_on rfl rfl (by assumption) ?_
      refine reg_quiet rfl (call_r hS rfl rfl (arg_own rfl (arg_own rfl arg_nil)) (.inr (PlainRes.sc _)) (fun _ => rfl)) ?_
      refine reg_on rfl rfl (by assumption) ?_
      refine reg_quiet rfl (step_C tab_ok (fun K hk => hk)) ?_
      refine reg_quiet rfl (pick_F tab_ok rfl (by assumption) rfl) ?_
      refine reg_quiet rfl (step_C tab_ok (fun K hk => hk)) ?_
      refine reg_on rfl rfl rfl ?_
      refine reg_quiet rfl (step_C tab_ok (fun K hk => hk)) ?_
      refine reg_on rfl rfl rfl ?_
      refine reg_quiet rfl (cap_exact tab_ok rfl rfl rfl) ?_
      refine reg_on rfl rfl rfl ?_
      refine reg_quiet rfl (step_C tab_ok (fun K hk => hk)) ?_
      refine reg_on rfl rfl rfl ?_
      refine reg_quiet rfl (len_own tab_ok rfl rfl) ?_
      refine reg_on rfl rfl rfl ?_
      refine reg_quiet rfl (step_C tab_ok (fun K hk => hk)) ?_
      refine reg_quiet rfl (pick_F tab_ok rfl rfl rfl) ?_
      refine reg_nil ?_
      refine seq_n ?_
      refine wc_false rfl (by assumption) ?_
      refine wc_skip ?_
      refine seq_n ?_
      refine wc_seq ?_
      refine wc_seq ?_
      refine wc_region ?_
      refine reg_quiet rfl (step_C tab_ok (fun K hk => hk)) ?_
      refine reg_quiet rfl (step_C tab_ok (fun K hk => hk)) ?_
      refine reg_quiet rfl (index_arr tab_ok rfl rfl rfl rfl rfl (by omega) (by assumption)) ?_
      refine reg_quiet rfl (step_C tab_ok (fun K hk => hk)) ?_
      refine reg_quiet rfl (load_i tab_ok rfl rfl) ?_
      refine reg_quiet rfl (step_C tab_ok (fun K hk => hk)) ?_
      refine reg_on rfl rfl (by assumption) ?_
      refine reg_quiet rfl (step_C tab_ok (fun K hk => hk)) ?_
      refine reg_on rfl rfl (by assumption) ?_
      refine reg_quiet rfl (step_C tab_ok (fun K hk => hk)) ?_
      refine reg_on rfl rfl (by assumption) ?_
      refine reg_quiet rfl (index_arr tab_ok rfl rfl rfl rfl rfl (by omega) (by assumption)) ?_
      refine reg_on rfl rfl (by assumption) ?_
      refine reg_quiet rfl (load_i tab_ok rfl rfl) ?_
      refine reg_on rfl rfl (by assumption) ?_
      refine reg_quiet rfl (call_r (ev_is _) rfl rfl (arg_e arg_nil) (.inl rfl) (fun _ => rfl)) ?_
      refine reg_on rfl rfl (by assumption) ?_
      refine reg_quiet rfl (step_C tab_ok (fun K hk => hk)) ?_
      refine reg_on rfl rfl (by assumption) ?_
      refine reg_quiet rfl (step_C tab_ok (fun K hk => hk)) ?_
      refine reg_on rfl rfl (by assumption) ?_
      refine reg_quiet rfl (step_C tab_ok (fun K hk => hk)) ?_
      refine reg_on rfl rfl (by assumption) ?_
      refine reg_quiet rfl (step_C tab_ok (fun K hk => hk)) ?_
      refine reg_on rfl rfl (by assumption) ?_
      refine reg_quiet rfl (index_own tab_ok rfl rfl rfl rfl rfl (by omega) (by omega)) ?_
      refine reg_on rfl rfl (by assumption) ?_
      refine reg_quiet rfl (step_C tab_ok (fun K hk => hk)) ?_
      refine reg_on rfl rfl (by assumption) ?_
      refine reg_quiet rfl (load_row (v := .d (bo g.ref)) tab_ok rfl rfl ⟨rfl, g, hg', bo g.ref, rfl, rfl⟩ rfl) ?_
      refine reg_on rfl rfl (by assumption) ?_
      refine reg_quiet rfl (pick_F tab_ok rfl (by assumption) rfl) ?_
      refine reg_quiet rfl (pick_T tab_ok rfl (by assumption) rfl) ?_
      refine reg_nil ?_
      refine seq_n ?_
      refine wc_false rfl (by assumption) ?_
      refine wc_skip ?_
      refine seq_n ?_
      refine wc_seq ?_
      refine wc_seq ?_
      refine wc_region ?_
      refine reg_quiet rfl (step_C tab_ok (fun K hk => hk)) ?_
      refine reg_nil ?_
      refine seq_n ?_
      refine wc_block ?_
      refine wc_inv (fun n : Nat => ⟨[(12, .int .i64 n), (6, .own 64 0 (vNext l hn).length 40 none), (0, .d (.arr 40 encFrame l))], [(64, some (.ds 39 40 true encFrame (vNext l hn)))], 72, Try.f3.ntmps, 64⟩) (fun n => n ≤ l.length) (fun n => l.length - n) 0 [(64, some 112)] (Nat.zero_le _)
        (.of rfl rfl rfl rfl rfl ⟨⟨_, rfl, .refl _⟩, rfl, ⟨_, rfl, .refl _⟩, rfl, ⟨_, rfl, .refl _⟩, rfl, trivial⟩ ⟨⟨rfl, rfl, _, rfl, .refl _⟩, trivial⟩) ?_
      clear hf hg hf' hg' hfu hfe hgr hE0 hi1 hi2 hi hil f g
      intro n hnl
      have hnl2 : (vNext l hn).length = l.length := vNext_len l hn
      refine wc_of ?_
      refine wc_seq ?_
      refine wc_seq ?_
      refine wc_region ?_
      refine reg_quiet rfl (step_C tab_ok (fun K hk => hk)) ?_
      refine reg_quiet rfl (step_C tab_ok (fun K hk => hk)) ?_
      refine reg_quiet rfl (len_arr tab_ok rfl rfl) ?_
      refine reg_quiet rfl (step_C tab_ok (fun K hk => hk)) ?_
      refine reg_nil ?_
      refine seq_n ?_
      refine wc_cond rfl (fun hb1 => ?_) (fun hb1 => ?_)
      · have hlt : n < l.length := by have := of_decide_eq_true hb1; omega
        obtain ⟨f, hf⟩ : ∃ f, l[n]? = some f := ⟨_, List.getElem?_eq_getElem hlt⟩
        obtain ⟨g, hg, hgf, hgs⟩ := next_facts (hand := hn) hf
        have hf' : l[((n : Int)).toNat]? = some f := by rw [Int.toNat_natCast]; exact hf
        have hg' : (vNext l hn)[((n : Int)).toNat]? = some g := by rw [Int.toNat_natCast]; exact hg
        have heq : (!decide (({ g with ref := f.ref } : Frame) = f)) = false := by rw [decide_eq_true hgs]; rfl
        refine wc_skip ?_
        refine seq_n ?_
        refine wc_seq ?_
        refine wc_block ?_
        refine wc_seq ?_
        refine wc_region ?_
        refine reg_quiet rfl (step_C tab_ok (fun K hk => hk)) ?_
        refine reg_quiet rfl (step_C tab_ok (fun K hk => hk)) ?_
        refine reg_quiet rfl (index_own tab_ok rfl rfl rfl rfl rfl (by omega) (by omega)) ?_
        refine reg_quiet rfl (load_row tab_ok rfl rfl ⟨rfl, _, by assumption, _, rfl, rfl⟩ rfl) ?_
        refine reg_new (step_C tab_ok (fun K hk => hk)) rfl ?_
        refine reg_store (store_row tab_ok rfl rfl rfl ⟨_, ⟨rfl, rfl, rfl⟩, rfl⟩ rfl) ?_
        refine reg_nil ?_
        refine seq_n ?_
        refine wc_seq ?_
        refine wc_seq_cut 149 (.bool (g.ref && !f.ref)) _ rfl ?_ ?_
        · refine reg_quiet rfl (step_C tab_ok (fun K hk => hk)) ?_
          refine reg_quiet rfl (load_box tab_ok rfl rfl ⟨_, rfl, rfl⟩ rfl) ?_
          refine reg_quiet rfl (step_C tab_ok (fun K hk => hk)) ?_
          refine reg_split rfl rfl rfl (fun hb => ?_) (fun hb => ?_)
          refine reg_on rfl rfl (by assumption) ?_
          refine reg_quiet rfl (step_C tab_ok (fun K hk => hk)) ?_
          refine reg_on rfl rfl (by assumption) ?_
          refine reg_quiet rfl (step_C tab_ok (fun K hk => hk)) ?_
          refine reg_on rfl rfl (by assumption) ?_
          refine reg_quiet rfl (index_arr tab_ok rfl rfl rfl rfl rfl (by omega) (by assumption)) ?_
          refine reg_on rfl rfl (by assumption) ?_
          refine reg_quiet rfl (step_C tab_ok (fun K hk => hk)) ?_
          refine reg_on rfl rfl (by assumption) ?_
          refine reg_quiet rfl (load_i tab_ok rfl rfl) ?_
          refine reg_on rfl rfl (by assumption) ?_
          refine reg_quiet rfl (step_C tab_ok (fun K hk => hk)) ?_
          refine reg_quiet rfl (pick_T tab_ok rfl (by assumption) rfl) ?_
          rotate_left
          refine reg_skip rfl rfl (by assumption) rfl rfl ?_
          refine reg_skip rfl rfl (by assumption) rfl rfl ?_
          refine reg_skip rfl rfl (by assumption) rfl rfl ?_
          refine reg_skip rfl rfl (by assumption) rfl rfl ?_
          refine reg_skip rfl rfl (by assumption) rfl rfl ?_
          refine reg_skip rfl rfl (by assumption) rfl rfl ?_
          refine reg_quiet rfl (pick_F tab_ok rfl (by assumption) rfl) ?_
          rotate_left
          all_goals refine reg_cut 10 rfl rfl rfl rfl rfl rfl rfl rfl rfl (AVLe.of_eq ?_)
          all_goals (first | rfl | (simp_all; done) | (simp_all; omega))
        refine wc_false rfl (by assumption) ?_
        refine wc_skip ?_
        refine seq_n ?_
        refine wc_seq ?_
        refine wc_region ?_
        refine reg_quiet rfl (step_C tab_ok (fun K hk => hk)) ?_
        refine reg_quiet rfl (step_C tab_ok (fun K hk => hk)) ?_
        refine reg_quiet rfl (index_arr tab_ok rfl rfl rfl rfl rfl (by omega) (by assumption)) ?_
        refine reg_quiet rfl (step_C tab_ok (fun K hk => hk)) ?_
        refine reg_quiet rfl (load_i tab_ok rfl rfl) ?_
        refine reg_quiet rfl (step_C tab_ok (fun K hk => hk)) ?_
        refine reg_store (store_row tab_ok rfl rfl rfl ⟨_, ⟨_, ⟨_, ⟨rfl, rfl, rfl⟩, rfl⟩, rfl⟩, rfl⟩ rfl) ?_
        refine reg_nil ?_
        refine seq_n ?_
        refine wc_seq ?_
        refine wc_draw (by kernel_rfl) ?_
        refine dreg_step rfl (load_box tab_ok rfl rfl rfl rfl) rfl rfl ?_
        refine dreg_step rfl (step_C tab_ok (fun K hk => hk)) rfl rfl ?_
        refine dreg_step rfl (step_C tab_ok (fun K hk => hk)) rfl rfl ?_
        refine dreg_step rfl (index_arr tab_ok rfl rfl rfl rfl rfl (by omega) (by assumption)) rfl rfl ?_
        refine dreg_step rfl (load_i tab_ok rfl rfl) rfl rfl ?_
        refine dreg_step rfl (neq_data rfl rfl rfl rfl (by kernel_rfl) (by decide) (frame_eq { g with ref := f.ref } f)) rfl rfl ?_
        refine dreg_nil (by kernel_rfl) ?_
        refine seq_n ?_
        refine wc_false rfl (by assumption) ?_
        refine wc_skip ?_
        refine blk_n ?_
        refine seq_n ?_
        refine wc_region ?_
        refine reg_quiet rfl (step_C tab_ok (fun K hk => hk)) ?_
        refine reg_quiet rfl (add_int tab_ok rfl rfl (wrap_i64 (by omega) (by omega))) ?_
        refine reg_quiet rfl (step_C tab_ok (fun K hk => hk)) ?_
        refine reg_nil ?_
        refine loop_n (n + 1) [] hlt (by omega) ?_
        exact .of rfl rfl rfl rfl rfl ⟨⟨_, rfl, .refl _⟩, rfl, ⟨_, rfl, .refl _⟩, rfl, ⟨_, rfl, .refl _⟩, rfl, trivial⟩ ⟨⟨rfl, rfl, _, rfl, .refl _⟩, trivial⟩
      · refine wc_exit ?_
        refine seq_x ?_
        refine loop_x ?_
        refine blk_x ?_
        refine seq_n ?_
        refine wc_seq ?_
        refine wc_region ?_
        refine reg_quiet rfl (call_r lives_is rfl rfl arg_nil (.inl rfl) (fun _ => rfl)) ?_
        refine reg_quiet rfl (step_C tab_ok (fun K hk => hk)) ?_
        refine reg_nil ?_
        refine seq_n ?_
        refine wc_ret ?_
        exact ⟨trivial, [], .of rfl rfl rfl rfl rfl ⟨⟨_, rfl, AVLe.of_eq rfl⟩, rfl, trivial⟩ trivial⟩
end Go.Proofs.Ytmdfeekpehcieaa

/- The frames of a list of bytes. -/
namespace Go.Proofs.Ytmdfeekpehcieaa
open Go.Eng
set_option maxHeartbeats 1000000
attribute [local irreducible] WC RegS RegD SeqQ BlkQ ScoQ RegK CutK Sat SatN FnIs LoopQ StepIs OpIs
def encF (L : List Int) : D := .cons (.arr 1 encU8 L) .nil
def byteK (L : List Int) (i : Nat) : Int := (L[i]?).getD 0
def ofK (L : List Int) (k : Nat) : List Frame := (List.range k).map fun i => oneF ((byteK L i).tmod 6) i
theorem ofK_len (L : List Int) (k : Nat) : (ofK L k).length = k := by simp [ofK]
theorem ofK_succ (L : List Int) (k : Nat) : ofK L (k + 1) = ofK L k ++ [oneF ((byteK L k).tmod 6) k] := by simp [ofK, List.range_succ]
def ofL (L : List Int) : List Frame := ofK L (min L.length 12)
def Bytes (L : List Int) : Prop := ∀ a ∈ L, 0 ≤ a ∧ a ≤ 255
theorem of_is (L : List Int) (hb : Bytes L) : FnIs Try.prog 22 [.d (encF L)] [] (.own 64 0 (ofL L).length 40 none) [(64, .ds 39 40 false encFrame (ofL L))] := by
  refine fnIs_of tab_ok Try.func22 rfl rfl rfl ?_
  refine wc_seq ?_
  refine wc_region ?_
  refine reg_new (step_C tab_ok (fun K hk => hk)) rfl ?_
  refine reg_quiet rfl (step_C tab_ok (fun K hk => hk)) ?_
  refine reg_nil ?_
  refine seq_n ?_
  refine wc_seq ?_
  refine wc_region ?_
  refine reg_quiet rfl (step_C tab_ok (fun K hk => hk)) ?_
  refine reg_nil ?_
  refine seq_n ?_
  refine wc_seq ?_
  refine wc_seq ?_
  refine wc_region ?_
  refine reg_quiet rfl (step_C tab_ok (fun K hk => hk)) ?_
  refine reg_nil ?_
  refine seq_n ?_
  refine wc_block ?_
  refine wc_inv (fun i : Nat => ⟨[(4, .int .i64 i), (3, .own 65 0 (ofK L i).length 40 none), (1, .ptr 64 [])], [(64, some (.box 44 (.d (encF L)))), (65, some (.ds 39 40 false encFrame (ofK L i)))], 72, Try.f22.ntmps, 64⟩) (fun i => i ≤ L.length ∧ i ≤ 12) (fun i => L.length - i) 0 [(65, none)] ⟨Nat.zero_le _, Nat.zero_le _⟩
    (.of rfl rfl rfl rfl rfl ⟨⟨_, rfl, .refl _⟩, rfl, ⟨_, rfl, .refl _⟩, rfl, ⟨_, rfl, .refl _⟩, rfl, trivial⟩ ⟨⟨rfl, rfl, _, rfl, .refl _⟩, ⟨rfl, rfl, rfl⟩, trivial⟩) ?_
  rintro i ⟨hi1, hi2⟩
  refine wc_of ?_
  refine wc_seq ?_
  refine wc_seq_cut 13 (.bool (decide ((i : Int) < L.length) && decide ((i : Int) < 12))) _ rfl ?_ ?_
  · refine reg_quiet rfl (step_C tab_ok (fun K hk => hk)) ?_
    refine reg_quiet rfl (step_C tab_ok (fun K hk => hk)) ?_
    refine reg_quiet rfl (load_box tab_ok rfl rfl ⟨_, rfl, rfl⟩ rfl) ?_
    refine reg_quiet rfl (len_arr tab_ok rfl rfl) ?_
    refine reg_quiet rfl (step_C tab_ok (fun K hk => hk)) ?_
    refine reg_quiet rfl (step_C tab_ok (fun K hk => hk)) ?_
    refine reg_split rfl rfl rfl (fun hb => ?_) (fun hb => ?_)
    refine reg_on rfl rfl (by assumption) ?_
    refine reg_quiet rfl (step_C tab_ok (fun K hk => hk)) ?_
    refine reg_on rfl rfl (by assumption) ?_
    refine reg_quiet rfl (step_C tab_ok (fun K hk => hk)) ?_
    refine reg_quiet rfl (pick_T tab_ok rfl (by assumption) rfl) ?_
    rotate_left
    refine reg_skip rfl rfl (by assumption) rfl rfl ?_
    refine reg_skip rfl rfl (by assumption) rfl rfl ?_
    refine reg_quiet rfl (pick_F tab_ok rfl (by assumption) rfl) ?_
    rotate_left
    all_goals refine reg_cut 9 rfl rfl rfl rfl rfl rfl rfl rfl rfl (AVLe.of_eq ?_)
    all_goals (first | rfl | (simp_all; done) | (simp_all; omega))
  refine wc_cond rfl (fun h1 => ?_) (fun h1 => ?_)
  · rw [Bool.and_eq_true] at h1
    have hlt : i < L.length := by have := of_decide_eq_true h1.1; omega
    have hlt2 : i < 12 := by have := of_decide_eq_true h1.2; omega
    obtain ⟨b, hbi⟩ : ∃ b, L[i]? = some b := ⟨_, List.getElem?_eq_getElem hlt⟩
    have hbi' : L[((i : Int)).toNat]? = some b := by rw [Int.toNat_natCast]; exact hbi
    have hbb := hb b (List.mem_of_getElem? hbi)
    have hm0 : 0 ≤ b.tmod 6 := Int.tmod_nonneg _ hbb.1
    have hm1 : b.tmod 6 < 6 := Int.tmod_lt_of_pos _ (by omega)
    have hconv : IntKind.i64.wrap (b.tmod 6) = b.tmod 6 := wrap_i64 (by omega) (by omega)
    have hlen : (ofK L i).length + 1 ≤ 1048576 := by rw [ofK_len]; omega
    have hs : ofK L (i + 1) = ofK L i ++ [oneF (b.tmod 6) i] := by rw [ofK_succ]; simp [byteK, hbi]
    have hsl : (ofK L (i + 1)).length = (ofK L i).length + 1 := by rw [ofK_len, ofK_len]
    refine wc_skip ?_
    refine seq_n ?_
    refine wc_seq ?_
    refine wc_block ?_
    refine wc_region ?_
    refine reg_quiet rfl (step_C tab_ok (fun K hk => hk)) ?_
    refine reg_quiet rfl (step_C tab_ok (fun K hk => hk)) ?_
    refine reg_quiet rfl (load_box tab_ok rfl rfl ⟨_, rfl, rfl⟩ rfl) ?_
    refine reg_quiet rfl (step_C tab_ok (fun K hk => hk)) ?_
    refine reg_quiet rfl (index_arr tab_ok rfl rfl rfl rfl rfl (by omega) (by assumption)) ?_
    refine reg_quiet rfl (load_i tab_ok rfl rfl) ?_
    refine reg_quiet rfl (rem_int tab_ok rfl rfl (by omega)) ?_
    refine reg_quiet rfl (conv_int tab_ok rfl rfl rfl hconv) ?_
    refine reg_quiet rfl (step_C tab_ok (fun K hk => hk)) ?_
    refine reg_quiet rfl (call_r (one_is _ _) rfl rfl (arg_e (arg_e arg_nil)) (.inl rfl) (fun _ => rfl)) ?_
    refine reg_new (build_slice tab_ok rfl rfl rfl rfl rfl rfl rfl rfl) rfl ?_
    refine reg_new2 (append_one (s := 40) tab_ok (oneF (b.tmod 6) i) rfl rfl rfl rfl rfl rfl rfl rfl rfl hlen rfl) rfl ?_
    refine reg_quiet rfl (step_C tab_ok (fun K hk => hk)) ?_
    refine reg_nil ?_
    refine blk_n ?_
    refine seq_n ?_
    refine wc_region ?_
    refine reg_quiet rfl (step_C tab_ok (fun K hk => hk)) ?_
    refine reg_quiet rfl (add_int tab_ok rfl rfl (wrap_i64 (by omega) (by omega))) ?_
    refine reg_quiet rfl (step_C tab_ok (fun K hk => hk)) ?_
    refine reg_nil ?_
    refine loop_n (i + 1) [(65, some 232)] ⟨hlt, hlt2⟩ (by omega) ?_
    exact .of rfl rfl rfl rfl rfl ⟨⟨_, rfl, .refl _⟩, rfl, ⟨_, rfl, .of_eq (by rw [hsl]; rfl)⟩, rfl, ⟨_, rfl, .refl _⟩, rfl, trivial⟩ ⟨⟨rfl, rfl, _, rfl, .refl _⟩, ⟨rfl, rfl, _, rfl, .of_eq (by rw [hs]; rfl)⟩, trivial⟩
  · have he : i = min L.length 12 := by
      rw [Bool.and_eq_false_iff] at h1
      rcases h1 with h1 | h1 <;> have := of_decide_eq_false h1 <;> omega
    subst he
    refine wc_exit ?_
    refine seq_x ?_
    refine loop_x ?_
    refine blk_x ?_
    refine seq_n ?_
    refine wc_seq ?_
    refine wc_region ?_
    refine reg_quiet rfl (step_C tab_ok (fun K hk => hk)) ?_
    refine reg_quiet rfl (step_C tab_ok (fun K hk => hk)) ?_
    refine reg_nil ?_
    refine seq_n ?_
    refine wc_ret ?_
    exact ⟨trivial, [(64, some 65)], .of rfl rfl rfl rfl rfl ⟨⟨_, rfl, AVLe.of_eq rfl⟩, rfl, trivial⟩ ⟨⟨rfl, rfl, _, rfl, .refl _⟩, trivial⟩⟩
end Go.Proofs.Ytmdfeekpehcieaa

/- Lists without unused frames; a frame that was made Ref is not the next victim. -/
namespace Go.Proofs.Ytmdfeekpehcieaa
open Go.Eng
def fillF (i : Nat) (f : Frame) : Frame := if f.used = true then f else oneF 1 i
def fill (l : List Frame) : List Frame := l.mapIdx fillF
def mix (l : List Frame) (i : Nat) : List Frame := (fill l).take i ++ l.drop i
theorem fill_len (l : List Frame) : (fill l).length = l.length := by simp [fill]
theorem fill_get {l : List Frame} {i : Nat} {f : Frame} (h : l[i]? = some f) : (fill l)[i]? = some (fillF i f) := by simp [fill, h]
theorem mix_len {l : List Frame} {i : Nat} (h : i ≤ l.length) : (mix l i).length = l.length := by simp [mix, fill_len]; omega
theorem mix_get {l : List Frame} {i : Nat} {f : Frame} (h : l[i]? = some f) : (mix l i)[i]? = some f := by
  have := (List.getElem?_eq_some_iff.1 h).1
  rw [mix, List.getElem?_append_right (by simp [fill_len]; omega)]
  simp only [List.length_take, fill_len, List.getElem?_drop]
  rw [show i + (i - min i l.length) = i by omega]; exact h
theorem mix_set {l : List Frame} {i : Nat} {f : Frame} (h : l[i]? = some f) : (mix l i).set i (fillF i f) = mix l (i + 1) := by
  have hi := (List.getElem?_eq_some_iff.1 h).1
  apply List.ext_getElem?
  intro j
  rw [List.getElem?_set]
  have hlen : i < (mix l i).length := by rw [mix_len (by omega)]; exact hi
  rcases Nat.lt_trichotomy i j with hj | rfl | hj
  · rw [if_neg (by omega), mix, mix, List.getElem?_append_right (by simp [fill_len]; omega), List.getElem?_append_right (by simp [fill_len]; omega)]
    simp only [List.length_take, fill_len, List.getElem?_drop]
    rw [show i + (j - min i l.length) = i + 1 + (j - min (i + 1) l.length) by omega]
  · rw [if_pos rfl, if_pos hlen, mix, List.getElem?_append_left (by simp [fill_len]; omega), List.getElem?_take, if_pos (by omega), fill_get h]
  · rw [if_neg (by omega), mix, mix, List.getElem?_append_left (by simp [fill_len]; omega), List.getElem?_append_left (by simp [fill_len]; omega), List.getElem?_take, List.getElem?_take, if_pos hj, if_pos (by omega)]
theorem mix_keep {l : List Frame} {i : Nat} {f : Frame} (h : l[i]? = some f) (hu : f.used = true) : mix l i = mix l (i + 1) := by
  rw [← mix_set h, fillF, if_pos hu]
  apply List.ext_getElem?
  intro j
  rw [List.getElem?_set]
  split
  · rename_i e; subst e
    rw [mix_get h]
    have := (List.getElem?_eq_some_iff.1 (mix_get h)).1
    simp [this]
  · rfl
theorem mix_full (l : List Frame) : mix l l.length = fill l := by simp [mix, ← fill_len l]
theorem oneF1_used (i : Int) : (oneF 1 i).used = true := rfl
theorem fillF_used (i : Nat) (f : Frame) : (fillF i f).used = true := by
  unfold fillF; split
  · assumption
  · rfl
theorem fill_used {l : List Frame} : ((fill l).any fun f => !f.used) = false := by
  rw [List.any_eq_false]
  intro f hf
  obtain ⟨i, hi, rfl⟩ := List.getElem_of_mem hf
  simp [fill, fillF_used]

def evI (f : Frame) : Int := if evB f = true then 1 else 0
theorem evI_bound (f : Frame) : 0 ≤ (if evB f = true then (1 : Int) else 0) ∧ (if evB f = true then (1 : Int) else 0) ≤ 1 := by split <;> omega
/-- How many others are evictable, and not Ref. -/
def othK (F : List Frame) (k : Nat) : Nat → Int
  | 0 => 0
  | i + 1 => othK F k i + match F[i]? with
    | some f => if i ≠ k ∧ f.ref = false then (if evB f = true then 1 else 0) else 0
    | none => 0
theorem oth_bound (F : List Frame) (k : Nat) : ∀ i, 0 ≤ othK F k i ∧ othK F k i ≤ i
  | 0 => ⟨Int.le_refl _, Int.le_refl _⟩
  | i + 1 => by
    have ih := oth_bound F k i
    simp only [othK]
    split
    · rename_i f _
      have := evI_bound f
      split <;> (push_cast; omega)
    · push_cast; omega
theorem oth_some (F : List Frame) (k : Nat) : ∀ i, othK F k i ≠ 0 → ∃ j f, j ≠ k ∧ F[j]? = some f ∧ f.ref = false ∧ evB f = true
  | 0, h => absurd rfl h
  | i + 1, h => by
    simp only [othK] at h
    cases hf : F[i]? with
    | none => rw [hf] at h; exact oth_some F k i (by simpa using h)
    | some f =>
      rw [hf] at h
      simp only at h
      by_cases hc : i ≠ k ∧ f.ref = false
      · by_cases he : evB f = true
        · exact ⟨i, f, hc.1, hf, hc.2, he⟩
        · rw [if_pos hc, if_neg he] at h; exact oth_some F k i (by simpa using h)
      · rw [if_neg hc] at h; exact oth_some F k i (by simpa using h)

/-- The stop of the clock, and where. -/
theorem clock_spec {l : List Frame} {hand : Nat} (hev : l.any evB = true) : stopB l hand (clock l hand) = true ∧ ∀ j, j < clock l hand → stopB l hand j = false := by
  have hex : ∃ k, stopB l hand k = true := by
    refine Classical.byContradiction fun hne => ?_
    have := clock_bound (k := 2 * l.length + 1) hev fun j _ => by
      cases h : stopB l hand j
      · rfl
      · exact absurd ⟨j, h⟩ hne
    omega
  obtain ⟨k, hk, hmin⟩ : ∃ k, stopB l hand k = true ∧ ∀ j, j < k → stopB l hand j = false := by
    obtain ⟨k0, hk0⟩ := hex
    induction k0 using Nat.strongRecOn with
    | _ k ih =>
      rcases Classical.em (∃ j, j < k ∧ stopB l hand j = true) with ⟨j, hj, hs⟩ | hno
      · exact ih j hj hs
      · refine ⟨k, hk0, fun j hj => ?_⟩
        cases h : stopB l hand j
        · rfl
        · exact absurd ⟨j, hj, h⟩ hno
  rw [clock_hit hev hmin hk]
  exact ⟨hk, hmin⟩

/-- The hand comes to every place. -/
theorem hand_comes {n : Nat} (hand : Nat) {e : Nat} (he : e < n) : ∃ j, j < n ∧ (hand + j) % n = e := by
  have hm := Nat.mod_lt hand (show 0 < n by omega)
  rcases Nat.lt_or_ge e (hand % n) with h1 | h1
  · refine ⟨e + n - hand % n, by omega, ?_⟩
    rw [← Nat.mod_add_mod, show hand % n + (e + n - hand % n) = e + n by omega, Nat.add_mod_right, Nat.mod_eq_of_lt he]
  · refine ⟨e - hand % n, by omega, ?_⟩
    rw [← Nat.mod_add_mod, show hand % n + (e - hand % n) = e by omega, Nat.mod_eq_of_lt he]

theorem ref_law {l : List Frame} {hand k j : Nat} {fk fj : Frame} (hu : (l.any fun f => !f.used) = false) (hk : l[k]? = some fk) (hkr : fk.ref = true) (hj : l[j]? = some fj) (hjk : j ≠ k) (hjr : fj.ref = false) (hje : evB fj = true) : vAt l hand ≠ (k : Nat) := by
  have hev : l.any evB = true := any_hit hj hje
  obtain ⟨hs, hmin⟩ := clock_spec (hand := hand) hev
  simp only [vAt, hu, Bool.false_eq_true, if_false]
  intro he
  have he : (hand + clock l hand) % l.length = k := by exact_mod_cast he
  have hjl := (List.getElem?_eq_some_iff.1 hj).1
  -- the frame k has lost its Ref ahead of the stop
  have hsk := sweep_at l hand k fk hk (clock l hand)
  rw [stopB_of (by rw [he]; exact hsk)] at hs
  have hpre : ∃ i, i < clock l hand ∧ (hand + i) % l.length = k := by
    refine Classical.byContradiction fun hno => ?_
    rw [if_neg (fun h => hno h.2)] at hs
    simp [hkr] at hs
  obtain ⟨i, hi, hik⟩ := hpre
  -- so a whole round has passed
  have hround : i + l.length ≤ clock l hand := by
    have h1 : (hand + clock l hand) % l.length = (hand + i) % l.length := by rw [he, hik]
    rcases Nat.lt_or_ge (clock l hand) (i + l.length) with h2 | h2
    · exfalso
      have h3 : (hand + clock l hand) % l.length = (hand + i + (clock l hand - i)) % l.length := by congr 1; omega
      rw [h3, ← Nat.mod_add_mod] at h1
      have hlt : clock l hand - i < l.length := by omega
      have hml := Nat.mod_lt (hand + i) (show 0 < l.length by omega)
      rcases Nat.lt_or_ge ((hand + i) % l.length + (clock l hand - i)) l.length with h4 | h4
      · rw [Nat.mod_eq_of_lt h4] at h1; omega
      · rw [Nat.mod_eq_sub_mod h4, Nat.mod_eq_of_lt (by omega)] at h1; omega
    · exact h2
  obtain ⟨t, ht, hte⟩ := hand_comes hand hjl
  have hno := hmin t (by omega)
  have hst := sweep_at l hand j fj hj t
  rw [stopB_of (by rw [hte]; exact hst)] at hno
  revert hno
  split <;> simp [evB_ref, hje, hjr]
end Go.Proofs.Ytmdfeekpehcieaa

/- Arguments that are structs of bytes. -/
namespace Go.Proofs.Ytmdfeekpehcieaa
open Go.Eng
theorem opens_F : Opens Try.prog 44 1 encF fun L => L.length ≤ maxLen ∧ ∀ a ∈ L, (Lit.int .u8 a).wf = true :=
  Opens.map (opens_struct (P := Try.prog) Try.underlying44 (by kernel_rfl) (fun _ => rfl) (opensF_cons rfl (by kernel_rfl) (opens_slice (P := Try.prog) Try.underlying42 (by kernel_rfl) (opens_int (P := Try.prog) Try.underlying5)) opensF_nil))
    (fun q => q.1) (fun _ _ => rfl) (fun _ h => h.1)
theorem u8_of {a : Int} (h : (Lit.int .u8 a).wf = true) : 0 ≤ a ∧ a ≤ 255 := by
  simp [Lit.wf, IntKind.min, IntKind.max, IntKind.bits, IntKind.signed] at h
  omega
theorem bytes_of {L : List Int} (h : L.length ≤ maxLen ∧ ∀ a ∈ L, (Lit.int .u8 a).wf = true) : Bytes L := fun a ha => u8_of (h.2 a ha)
end Go.Proofs.Ytmdfeekpehcieaa
