/- The examples of the chapter hold, the greatest disk has 10922 sectors, and the zero disk has none. No condition. -/
import Derived.Test.YtfmemklkkmiicaaDC
import Derived.Test.YtfmemklkkmiicaaEngD
import Derived.Test.YtfmemklkkmiicaaRows

set_option linter.unusedVariables false
set_option linter.unusedSimpArgs false

/- DisksOther: the law. -/
namespace Go.Proofs.Ytfmemklkkmiicaa
open Go.Eng
theorem refL_len (M : List Vs) : (refL M).length = M.length := by simp [refL]
theorem Rep.last {N j : Nat} {d : Dk} {M : List Vs} (h : Rep N j d M) {i : Nat} (hi : i < N) : FnIs Try.prog 20 [.d (encRD (refL M)), .d (i6 i)] [] (.d (encV (topV (verAt M i)))) [] := by
  have hiM : i < M.length := by rw [h.l]; exact hi
  have hv := h.vlen hi
  have hj := h.jb
  refine last_is (refL M) i (hist (verAt M i)) (topV (verAt M i)) (by rw [hist_len]; omega) (by rw [hist_len]; omega) (by rw [Int.toNat_natCast]; exact refL_get hiM) ?_
  have := hist_get (verAt M i) 0 (Nat.zero_le _)
  rw [show (((hist (verAt M i)).length : Int) - 1).toNat = (verAt M i).length - 0 by rw [hist_len]; omega]
  exact this
theorem other_is (z : Int) (ops : List Opr) (y : Opr) (t : Int) (h : 0 ≤ z ∧ z ≤ 255) (hl : ∀ o ∈ ops, OpOk o) (hy : OpOk y) (ht : 0 ≤ t ∧ t ≤ 255) : FnIs Try.prog 6 [.d (encX (z, ops)), .d (encOpr y), .d (u8s t)] [] (.bool true) [] := by
  obtain ⟨h1, h2, -⟩ := size_ok h
  obtain ⟨N, hN⟩ : ∃ N, N = sizeN z := ⟨_, rfl⟩
  have hOf := of_is z ops h hl
  have hRef := refOf_is z ops h hl
  rw [← hN] at h1 h2 hOf hRef
  have rep := rep_run (N := N) ⟨h1, by omega⟩ ops hl (min ops.length 60) (by omega)
  obtain ⟨d, hd⟩ : ∃ d, d = runD N ops (min ops.length 60) := ⟨_, rfl⟩
  obtain ⟨M, hM⟩ : ∃ M, M = runM N ops (min ops.length 60) := ⟨_, rfl⟩
  obtain ⟨j, hj⟩ : ∃ j, j = min ops.length 60 := ⟨_, rfl⟩
  have hj60 : j ≤ 60 := by omega
  rw [← hd, ← hM, ← hj] at rep
  rw [← hd] at hOf
  rw [← hM] at hRef
  have rep2 := rep.step (by omega) y hy
  obtain ⟨hs, hse⟩ := sec_lt y hy (N := N) h1
  have ti0 : 0 ≤ t.tmod (N : Int) := Int.tmod_nonneg _ ht.1
  have ti1 : t.tmod (N : Int) < N := Int.tmod_lt_of_pos _ (by omega)
  obtain ⟨i, hi⟩ : ∃ i : Nat, t.tmod (N : Int) = i := ⟨(t.tmod (N : Int)).toNat, by omega⟩
  have hiN : i < N := by omega
  obtain ⟨p, q, hpq, hcon⟩ := contR_ab (verAt (stepM y M) i)
  have hRead := read_ok _ i _ _ (rep2.at hiN)
  rw [hpq] at hRead
  have hsM : sec y N < M.length := by rw [rep.l]; exact hs
  by_cases he : errM y M = 0
  · -- the change was made
    have hst : stepM y M = M.set (sec y N) ((chg y (verAt M (sec y N))).2 :: verAt M (sec y N)) := by
      unfold stepM
      unfold errM at he
      rw [rep.l] at he ⊢
      rw [if_pos he]
    have hvs : verAt (stepM y M) (sec y N) = (chg y (verAt M (sec y N))).2 :: verAt M (sec y N) := by rw [hst, verAt_set hsM, if_pos rfl]
    have hA2 := rep2.at hs
    have hR := replay_ok _ (sec y N) 1 _ _ hA2 (by rw [hvs]; simp)
    have rep3 := rep2.put (by omega) hs (topV ((verAt (stepM y M) (sec y N)).drop 1)) (by
      rw [hvs]
      show (topV (verAt M (sec y N))).b.length ≤ 256
      cases hv : verAt M (sec y N) with
      | nil => simp [topV]
      | cons x l => exact rep.b _ (rep.vmem hs) x (by rw [hv]; simp)) (by
      rw [hvs]
      show (topV (verAt M (sec y N))).there = false → _
      cases hv : verAt M (sec y N) with
      | nil => intro _; rfl
      | cons x l => exact rep.a _ (rep.vmem hs) x (by rw [hv]; simp))
    obtain ⟨p2, q2, hpq2, hcon2⟩ := contR_ab (verAt ((stepM y M).set (sec y N) (topV ((verAt (stepM y M) (sec y N)).drop 1) :: verAt (stepM y M) (sec y N))) (sec y N))
    have hRd2 := read_ok _ (sec y N) _ _ (rep3.at hs)
    rw [hpq2] at hRd2
    rw [verAt_set (by rw [stepM_len]; exact hsM), if_pos rfl, hvs] at hcon2
    refine other_core z ops y t h hy ht N _ i hN ⟨h1, h2⟩ d _ _ _ _ _ hse hi p q p2 q2 (topV (verAt M i)) (topV (verAt M (sec y N))) hOf hRef (do_is rep y hy) (ref_is rep y hy) hRead (fun hne => ⟨rep.last hiN, ?_⟩) (fun hne => absurd he hne) (fun _ => ⟨hR, hRd2, rep.last hs, hcon2⟩)
    rw [hst, verAt_set hsM, if_neg hne] at hcon
    exact hcon
  · have hst : stepM y M = M := by
      unfold stepM
      unfold errM at he
      rw [if_neg he]
    refine other_core z ops y t h hy ht N _ i hN ⟨h1, h2⟩ d _ zeroK _ _ _ hse hi p q (.sc nil_) (.sc nil_) (topV (verAt M i)) noV hOf hRef (do_is rep y hy) (ref_is rep y hy) hRead (fun hne => ⟨rep.last hiN, ?_⟩) (fun _ => ?_) (fun e => absurd e he)
    · rw [hst] at hcon
      exact hcon
    · have := equal_is rep2
      rw [hst] at this
      exact this
end Go.Proofs.Ytfmemklkkmiicaa

/- DisksKnown. -/
namespace Go.Proofs.Ytfmemklkkmiicaa
open Go.Eng
set_option maxHeartbeats 8000000
set_option maxRecDepth 50000
set_option linter.unusedVariables false
attribute [local irreducible] WC RegS RegD SeqQ BlkQ ScoQ RegK CutK Sat SatN FnIs LoopQ StepIs OpIs
theorem zero_dle : DLe r27.zero (encDk zeroK) := DLe.cons (DLe.refl _) (DLe.cons (DLe.refl _) (DLe.cons (DLe.nil_arr 1 encC) (DLe.refl _)))
theorem same_zero : FnIs Try.prog 28 [.d (encDk zeroK), .d (encDk zeroK)] [] (.bool true) [] := by
  refine fnIs_of tab_ok Try.func28 rfl rfl rfl ?_
  refine wc_seq ?_
  refine wc_region ?_
  refine reg_new (step_C tab_ok (fun K hk => hk)) rfl ?_
  refine reg_new (step_C tab_ok (fun K hk => hk)) rfl ?_
  refine reg_quiet rfl (step_C tab_ok (fun K hk => hk)) ?_
  refine reg_nil ?_
  refine seq_n ?_
  refine wc_seq ?_
  refine wc_seq ?_
  refine wc_region ?_
  refine reg_quiet rfl (step_C tab_ok (fun K hk => hk)) ?_
  refine reg_quiet rfl (load_box tab_ok rfl rfl ⟨_, rfl, rfl⟩ rfl) ?_
  refine reg_quiet rfl (step_C tab_ok (fun K hk => hk)) ?_
  refine reg_quiet rfl (load_box tab_ok rfl rfl ⟨_, rfl, rfl⟩ rfl) ?_
  refine reg_quiet rfl (step_C tab_ok (fun K hk => hk)) ?_
  refine reg_nil ?_
  refine seq_n ?_
  refine wc_false rfl rfl ?_
  refine wc_skip ?_
  refine seq_n ?_
  refine wc_seq ?_
  refine wc_seq ?_
  refine wc_region ?_
  refine reg_quiet rfl (step_C tab_ok (fun K hk => hk)) ?_
  refine reg_quiet rfl (load_box tab_ok rfl rfl ⟨_, rfl, rfl⟩ rfl) ?_
  refine reg_quiet rfl (step_C tab_ok (fun K hk => hk)) ?_
  refine reg_nil ?_
  refine seq_n ?_
  refine wc_block ?_
  refine wc_inv (fun i : Nat => ⟨[(21, .int .i64 i), (20, .int .i64 0)], [], 72, Try.f28.ntmps, 64⟩) (fun i => i ≤ 0) (fun i => 0 - i) 0 [] (Nat.zero_le _)
    (.of rfl rfl rfl rfl rfl ⟨⟨_, rfl, .refl _⟩, rfl, ⟨_, rfl, .refl _⟩, rfl, trivial⟩ trivial) ?_
  intro i hi
  obtain rfl : i = 0 := by omega
  refine wc_of ?_
  refine wc_seq ?_
  refine wc_region ?_
  refine reg_quiet rfl (step_C tab_ok (fun K hk => hk)) ?_
  refine reg_nil ?_
  refine seq_n ?_
  refine wc_seq ?_
  refine wc_false rfl rfl ?_
  refine wc_exit ?_
  refine seq_x ?_
  refine loop_x ?_
  refine blk_x ?_
  refine seq_n ?_
  refine wc_seq ?_
  refine wc_region ?_
  refine reg_quiet rfl (step_C tab_ok (fun K hk => hk)) ?_
  refine reg_nil ?_
  refine seq_n ?_
  refine wc_ret ?_
  exact ⟨trivial, [], .of rfl rfl rfl rfl rfl ⟨⟨_, rfl, AVLe.of_eq rfl⟩, rfl, trivial⟩ trivial⟩
theorem same_zd (d : Dk) (hd : (!decide (zeroK.n = d.n)) = true) : FnIs Try.prog 28 [.d (encDk zeroK), .d (encDk d)] [] (.bool false) [] := by
  refine fnIs_of tab_ok Try.func28 rfl rfl rfl ?_
  refine wc_seq ?_
  refine wc_region ?_
  refine reg_new (step_C tab_ok (fun K hk => hk)) rfl ?_
  refine reg_new (step_C tab_ok (fun K hk => hk)) rfl ?_
  refine reg_quiet rfl (step_C tab_ok (fun K hk => hk)) ?_
  refine reg_nil ?_
  refine seq_n ?_
  refine wc_seq ?_
  refine wc_seq ?_
  refine wc_region ?_
  refine reg_quiet rfl (step_C tab_ok (fun K hk => hk)) ?_
  refine reg_quiet rfl (load_box tab_ok rfl rfl ⟨_, rfl, rfl⟩ rfl) ?_
  refine reg_quiet rfl (step_C tab_ok (fun K hk => hk)) ?_
  refine reg_quiet rfl (load_box tab_ok rfl rfl ⟨_, rfl, rfl⟩ rfl) ?_
  refine reg_quiet rfl (step_C tab_ok (fun K hk => hk)) ?_
  refine reg_nil ?_
  refine seq_n ?_
  refine wc_true rfl (by assumption) ?_
  refine wc_seq ?_
  refine wc_region ?_
  refine reg_quiet rfl (step_C tab_ok (fun K hk => hk)) ?_
  refine reg_nil ?_
  refine seq_n ?_
  refine wc_ret ?_
  refine seq_r ?_
  exact ⟨trivial, [], .of rfl rfl rfl rfl rfl ⟨⟨_, rfl, AVLe.of_eq rfl⟩, rfl, trivial⟩ trivial⟩
abbrev z256 : List Int := List.replicate 256 0
/-- The content that is written in round i. -/
abbrev bI (i : Nat) : List Int := [IntKind.u8.wrap (i : Int), IntKind.u8.wrap ((i / 2 ^ 8 : Nat) : Int)]
theorem known_core (d0 d1 d2 dr : Dk) (dI : Nat → Dk) (hNew : FnIs Try.prog 9 [.d (i6 10922)] [] (tup2 (encDk d0) (i6 0)) [])
    (hW1 : FnIs Try.prog 23 [.d (encDk d0), .d (i6 10921), .own 0 0 256 1 none] [(0, .ds 5 1 true encU8 z256)] (tup2 (encDk d1) (i6 0)) [])
    (hW2 : FnIs Try.prog 23 [.d (encDk d1), .d (i6 0), .d (.arr 1 encU8 [])] [] (tup2 (encDk d2) (i6 0)) [])
    (hEr : FnIs Try.prog 22 [.d (encDk d2), .d (i6 5000)] [] (tup2 (encDk (dI 0)) (i6 0)) [])
    (hR1 : FnIs Try.prog 18 [.d (encDk (dI 0)), .d (i6 10921)] [] (tup2 (.arx 1 encU8 z256) (i6 0)) [])
    (hR2 : FnIs Try.prog 18 [.d (encDk (dI 0)), .d (i6 0)] [] (tup2 (.arx 1 encU8 []) (i6 0)) [])
    (hR3 : FnIs Try.prog 18 [.d (encDk (dI 0)), .d (i6 5000)] [] (tup2 (.sc nil_) (i6 11)) [])
    (hP : FnIs Try.prog 29 [.d (encDk (dI 0))] [] (.own 64 0 2 1 (some 2)) [(64, .ds 3 1 false i6 [0, 10921])])
    (f1 : (!decide ((z256.length : Int) = 256)) = false)
    (f2 : (!decide ((dI 0).ch = 3)) = false)
    (hWI : ∀ i, i < 1000 → FnIs Try.prog 23 [.d (encDk (dI i)), .d (i6 64), .d (.arr 1 encU8 (bI i))] [] (tup2 (encDk (dI (i + 1))) (i6 0)) [])
    (hVn : FnIs Try.prog 25 [.d (encDk (dI 1000)), .d (i6 64), .d (i6 600)] [] (tup2 (.arx 1 encU8 [87, 2]) (i6 0)) [])
    (hRp : FnIs Try.prog 26 [.d (encDk (dI 1000)), .d (i6 64), .d (i6 999)] [] (tup2 (encDk dr) (i6 0)) [])
    (hRd : FnIs Try.prog 18 [.d (encDk dr), .d (i6 64)] [] (tup2 (.arx 1 encU8 [0, 0]) (i6 0)) [])
    (g1 : (!decide (strOf [87, 2] = ⟨#[87, 2]⟩)) = false)
    (g2 : (!decide (strOf [0, 0] = ⟨#[0, 0]⟩)) = false)
    (hZr : FnIs Try.prog 18 [.d (encDk zeroK), .d (i6 0)] [] (tup2 (.sc nil_) (i6 1)) [])
    (hZw : FnIs Try.prog 23 [.d (encDk zeroK), .d (i6 0), .d (.arr 1 encU8 [])] [] (tup2 (encDk zeroK) (i6 1)) [])
    (hZp : FnIs Try.prog 29 [.d (encDk zeroK)] [] (.own 64 0 0 1 (some 0)) [(64, .ds 3 1 false i6 [])])
    (hz : (!decide (zeroK.n = (dI 1000).n)) = true) : FnIs Try.prog 8 [] [] (.bool true) [] := by
  refine fnIs_of tab_ok Try.func8 rfl rfl rfl ?_
  refine wc_seq ?_
  refine wc_region ?_
  refine reg_quiet rfl (step_C tab_ok (fun K hk => hk)) ?_
  refine reg_nil ?_
  refine seq_n ?_
  refine wc_seq ?_
  refine wc_region ?_
  refine reg_quiet rfl (call_r hNew rfl rfl (arg_e arg_nil) (.inl rfl) (fun _ => rfl)) ?_
  refine reg_quiet rfl (step_C tab_ok (fun K hk => hk)) ?_
  refine reg_quiet rfl (step_C tab_ok (fun K hk => hk)) ?_
  refine reg_quiet rfl (step_C tab_ok (fun K hk => hk)) ?_
  refine reg_new (step_C tab_ok (fun K hk => hk)) rfl ?_
  refine reg_store (store_row tab_ok rfl rfl rfl ⟨_, ⟨rfl, rfl, rfl⟩, rfl⟩ rfl) ?_
  refine reg_quiet rfl (step_C tab_ok (fun K hk => hk)) ?_
  refine reg_nil ?_
  refine seq_n ?_
  refine wc_seq ?_
  refine wc_draw (by kernel_rfl) ?_
  refine dreg_q [1] [104] rfl (load_box tab_ok rfl rfl rfl rfl) ?_
  refine dreg_w [] [] rfl (make_full (enc := encU8) (s := 1) (N := 256) tab_ok 0 rfl rfl rfl rfl rfl rfl rfl (by decide) rfl) ?_
  refine dreg_w [21, 22] [136] rfl (call_h [(0, some 136)] hW1 rfl rfl rfl (arg_e (arg_e (arg_give rfl rfl arg_nil))) ⟨⟨rfl, rfl, _, _, rfl, rfl, .refl _⟩, trivial⟩ rfl rfl (.inl rfl) rfl rfl) ?_
  refine dreg_q [23] [] rfl (step_C tab_ok (fun K hk => hk)) ?_
  refine dreg_q [20] [] rfl (step_C tab_ok (fun K hk => hk)) ?_
  refine dreg_q [20] [] rfl (step_C tab_ok (fun K hk => hk)) ?_
  refine dreg_s [1, 24] [104] (store_row tab_ok rfl rfl rfl ⟨_, ⟨rfl, rfl, rfl⟩, rfl⟩ rfl) ?_
  refine dreg_q [25] [] rfl (step_C tab_ok (fun K hk => hk)) ?_
  refine dreg_end (by kernel_rfl) ?_
  refine seq_n ?_
  refine wc_seq ?_
  refine wc_region ?_
  refine reg_quiet rfl (load_box tab_ok rfl rfl rfl rfl) ?_
  refine reg_quiet rfl (call_r hW2 rfl rfl (arg_e (arg_e (arg_nilslice arg_nil))) (.inl rfl) (fun _ => rfl)) ?_
  refine reg_quiet rfl (step_C tab_ok (fun K hk => hk)) ?_
  refine reg_quiet rfl (step_C tab_ok (fun K hk => hk)) ?_
  refine reg_quiet rfl (step_C tab_ok (fun K hk => hk)) ?_
  refine reg_store (store_row tab_ok rfl rfl rfl ⟨_, ⟨rfl, rfl, rfl⟩, rfl⟩ rfl) ?_
  refine reg_quiet rfl (step_C tab_ok (fun K hk => hk)) ?_
  refine reg_nil ?_
  refine seq_n ?_
  refine wc_seq ?_
  refine wc_region ?_
  refine reg_quiet rfl (load_box tab_ok rfl rfl rfl rfl) ?_
  refine reg_quiet rfl (call_r hEr rfl rfl (arg_e (arg_e arg_nil)) (.inl rfl) (fun _ => rfl)) ?_
  refine reg_quiet rfl (step_C tab_ok (fun K hk => hk)) ?_
  refine reg_quiet rfl (step_C tab_ok (fun K hk => hk)) ?_
  refine reg_quiet rfl (step_C tab_ok (fun K hk => hk)) ?_
  refine reg_store (store_row tab_ok rfl rfl rfl ⟨_, ⟨rfl, rfl, rfl⟩, rfl⟩ rfl) ?_
  refine reg_quiet rfl (step_C tab_ok (fun K hk => hk)) ?_
  refine reg_nil ?_
  refine seq_n ?_
  refine wc_seq ?_
  refine wc_region ?_
  refine reg_quiet rfl (load_box tab_ok rfl rfl rfl rfl) ?_
  refine reg_quiet rfl (call_r hR1 rfl rfl (arg_e (arg_e arg_nil)) (.inl rfl) (fun _ => rfl)) ?_
  refine reg_quiet rfl (step_C tab_ok (fun K hk => hk)) ?_
  refine reg_quiet rfl (step_C tab_ok (fun K hk => hk)) ?_
  refine reg_quiet rfl (step_C tab_ok (fun K hk => hk)) ?_
  refine reg_quiet rfl (step_C tab_ok (fun K hk => hk)) ?_
  refine reg_quiet rfl (step_C tab_ok (fun K hk => hk)) ?_
  refine reg_nil ?_
  refine seq_n ?_
  refine wc_seq ?_
  refine wc_region ?_
  refine reg_quiet rfl (load_box tab_ok rfl rfl rfl rfl) ?_
  refine reg_quiet rfl (call_r hR2 rfl rfl (arg_e (arg_e arg_nil)) (.inl rfl) (fun _ => rfl)) ?_
  refine reg_quiet rfl (step_C tab_ok (fun K hk => hk)) ?_
  refine reg_quiet rfl (step_C tab_ok (fun K hk => hk)) ?_
  refine reg_quiet rfl (step_C tab_ok (fun K hk => hk)) ?_
  refine reg_quiet rfl (step_C tab_ok (fun K hk => hk)) ?_
  refine reg_quiet rfl (step_C tab_ok (fun K hk => hk)) ?_
  refine reg_nil ?_
  refine seq_n ?_
  refine wc_seq ?_
  refine wc_region ?_
  refine reg_quiet rfl (load_box tab_ok rfl rfl rfl rfl) ?_
  refine reg_quiet rfl (call_r hR3 rfl rfl (arg_e (arg_e arg_nil)) (.inl rfl) (fun _ => rfl)) ?_
  refine reg_quiet rfl (step_C tab_ok (fun K hk => hk)) ?_
  refine reg_quiet rfl (step_C tab_ok (fun K hk => hk)) ?_
  refine reg_quiet rfl (step_C tab_ok (fun K hk => hk)) ?_
  refine reg_quiet rfl (step_C tab_ok (fun K hk => hk)) ?_
  refine reg_quiet rfl (step_C tab_ok (fun K hk => hk)) ?_
  refine reg_nil ?_
  refine seq_n ?_
  refine wc_seq ?_
  refine wc_region ?_
  refine reg_quiet rfl (load_box tab_ok rfl rfl rfl rfl) ?_
  refine reg_new (call_new hP rfl rfl (arg_e arg_nil) (.inl rfl) rfl rfl) rfl ?_
  refine reg_quiet rfl (step_C tab_ok (fun K hk => hk)) ?_
  refine reg_nil ?_
  refine seq_n ?_
  refine wc_seq ?_
  refine wc_seq ?_
  refine wc_region ?_
  refine reg_quiet rfl (step_C tab_ok (fun K hk => hk)) ?_
  refine reg_quiet rfl (step_C tab_ok (fun K hk => hk)) ?_
  refine reg_quiet rfl (add_int tab_ok rfl rfl (wrap_i64 (by omega) (by omega))) ?_
  refine reg_quiet rfl (step_C tab_ok (fun K hk => hk)) ?_
  refine reg_quiet rfl (add_int tab_ok rfl rfl (wrap_i64 (by omega) (by omega))) ?_
  refine reg_quiet rfl (step_C tab_ok (fun K hk => hk)) ?_
  refine reg_quiet rfl (add_int tab_ok rfl rfl (wrap_i64 (by omega) (by omega))) ?_
  refine reg_quiet rfl (step_C tab_ok (fun K hk => hk)) ?_
  refine reg_quiet rfl (add_int tab_ok rfl rfl (wrap_i64 (by omega) (by omega))) ?_
  refine reg_quiet rfl (step_C tab_ok (fun K hk => hk)) ?_
  refine reg_quiet rfl (add_int tab_ok rfl rfl (wrap_i64 (by omega) (by omega))) ?_
  refine reg_quiet rfl (step_C tab_ok (fun K hk => hk)) ?_
  refine reg_quiet rfl (step_C tab_ok (fun K hk => hk)) ?_
  refine reg_on rfl rfl rfl ?_
  refine reg_quiet rfl (step_C tab_ok (fun K hk => hk)) ?_
  refine reg_on rfl rfl rfl ?_
  refine reg_quiet rfl (len_arx tab_ok rfl rfl) ?_
  refine reg_on rfl rfl rfl ?_
  refine reg_quiet rfl (step_C tab_ok (fun K hk => hk)) ?_
  refine reg_quiet rfl (pick_F tab_ok rfl rfl rfl) ?_
  refine reg_quiet rfl (step_C tab_ok (fun K hk => hk)) ?_
  refine reg_on rfl rfl rfl ?_
  refine reg_quiet rfl (step_C tab_ok (fun K hk => hk)) ?_
  refine reg_on rfl rfl rfl ?_
  refine reg_quiet rfl (len_arx tab_ok rfl rfl) ?_
  refine reg_on rfl rfl rfl ?_
  refine reg_quiet rfl (step_C tab_ok (fun K hk => hk)) ?_
  refine reg_quiet rfl (pick_F tab_ok rfl rfl rfl) ?_
  refine reg_quiet rfl (step_C tab_ok (fun K hk => hk)) ?_
  refine reg_on rfl rfl rfl ?_
  refine reg_quiet rfl (step_C tab_ok (fun K hk => hk)) ?_
  refine reg_on rfl rfl rfl ?_
  refine reg_quiet rfl (step_C tab_ok (fun K hk => hk)) ?_
  refine reg_quiet rfl (pick_F tab_ok rfl rfl rfl) ?_
  refine reg_quiet rfl (step_C tab_ok (fun K hk => hk)) ?_
  refine reg_on rfl rfl rfl ?_
  refine reg_quiet rfl (step_C tab_ok (fun K hk => hk)) ?_
  refine reg_on rfl rfl rfl ?_
  refine reg_quiet rfl (len_own tab_ok rfl rfl) ?_
  refine reg_on rfl rfl rfl ?_
  refine reg_quiet rfl (step_C tab_ok (fun K hk => hk)) ?_
  refine reg_quiet rfl (pick_F tab_ok rfl rfl rfl) ?_
  refine reg_quiet rfl (step_C tab_ok (fun K hk => hk)) ?_
  refine reg_on rfl rfl rfl ?_
  refine reg_quiet rfl (step_C tab_ok (fun K hk => hk)) ?_
  refine reg_on rfl rfl rfl ?_
  refine reg_quiet rfl (index_own tab_ok rfl rfl rfl rfl rfl (by decide) (by decide)) ?_
  refine reg_on rfl rfl rfl ?_
  refine reg_quiet rfl (load_row (v := .int .i64 0) tab_ok rfl rfl ⟨rfl, (0 : Int), rfl, i6 0, rfl, rfl⟩ rfl) ?_
  refine reg_on rfl rfl rfl ?_
  refine reg_quiet rfl (step_C tab_ok (fun K hk => hk)) ?_
  refine reg_quiet rfl (pick_F tab_ok rfl rfl rfl) ?_
  refine reg_quiet rfl (step_C tab_ok (fun K hk => hk)) ?_
  refine reg_on rfl rfl rfl ?_
  refine reg_quiet rfl (step_C tab_ok (fun K hk => hk)) ?_
  refine reg_on rfl rfl rfl ?_
  refine reg_quiet rfl (index_own tab_ok rfl rfl rfl rfl rfl (by decide) (by decide)) ?_
  refine reg_on rfl rfl rfl ?_
  refine reg_quiet rfl (load_row (v := .int .i64 10921) tab_ok rfl rfl ⟨rfl, (10921 : Int), rfl, i6 10921, rfl, rfl⟩ rfl) ?_
  refine reg_on rfl rfl rfl ?_
  refine reg_quiet rfl (step_C tab_ok (fun K hk => hk)) ?_
  refine reg_quiet rfl (pick_F tab_ok rfl rfl rfl) ?_
  refine reg_quiet rfl (step_C tab_ok (fun K hk => hk)) ?_
  refine reg_on rfl rfl rfl ?_
  refine reg_quiet rfl (load_box tab_ok rfl rfl rfl rfl) ?_
  refine reg_on rfl rfl rfl ?_
  refine reg_quiet rfl (call_r (changes_is (dI 0)) rfl rfl (arg_e arg_nil) (.inl rfl) (fun _ => rfl)) ?_
  refine reg_on rfl rfl rfl ?_
  refine reg_quiet rfl (step_C tab_ok (fun K hk => hk)) ?_
  refine reg_quiet rfl (pick_F tab_ok rfl rfl rfl) ?_
  refine reg_nil ?_
  refine seq_n ?_
  refine wc_false rfl (by assumption) ?_
  refine wc_skip ?_
  refine seq_n ?_
  refine wc_seq ?_
  refine wc_seq ?_
  refine wc_region ?_
  refine reg_quiet rfl (step_C tab_ok (fun K hk => hk)) ?_
  refine reg_nil ?_
  refine seq_n ?_
  refine wc_block ?_

  refine wc_inv (fun i : Nat => ⟨[(13, .int .i64 i), (1, .ptr 64 [])], [(64, some (.box 27 (.d (encDk (dI i)))))], 72, Try.f8.ntmps, 64⟩) (fun i => i ≤ 1000) (fun i => 1000 - i) 0 [(64, some 104)] (Nat.zero_le _)
    (.of rfl rfl rfl rfl rfl ⟨⟨_, rfl, .refl _⟩, rfl, ⟨_, rfl, .refl _⟩, rfl, trivial⟩ ⟨⟨rfl, rfl, _, rfl, .refl _⟩, trivial⟩) ?_
  intro i hi
  refine wc_of ?_
  refine wc_seq ?_
  refine wc_seq ?_
  refine wc_region ?_
  refine reg_quiet rfl (step_C tab_ok (fun K hk => hk)) ?_
  refine reg_quiet rfl (step_C tab_ok (fun K hk => hk)) ?_
  refine reg_nil ?_
  refine seq_n ?_
  refine wc_cond rfl (fun h3 => ?_) (fun h3 => ?_)
  · have hlt : i < 1000 := by have := of_decide_eq_true h3; omega
    refine wc_skip ?_
    refine seq_n ?_
    refine wc_seq ?_
    refine wc_block ?_
    refine wc_seq ?_
    refine wc_region ?_
    refine reg_quiet rfl (load_box tab_ok rfl rfl rfl rfl) ?_
    refine reg_quiet rfl (step_C tab_ok (fun K hk => hk)) ?_
    refine reg_quiet rfl (conv_int tab_ok rfl rfl rfl rfl) ?_
    refine reg_quiet rfl (step_C tab_ok (fun K hk => hk)) ?_
    refine reg_quiet rfl (shr_nat (k' := .u64) (s := 8) (m := i / 2 ^ 8) rfl rfl (by decide) rfl) ?_
    refine reg_quiet rfl (conv_int tab_ok rfl rfl rfl rfl) ?_
    refine reg_new (build_slice tab_ok rfl rfl rfl rfl rfl rfl rfl rfl) rfl ?_

    refine reg_freeze (env' := [(112, _), (106, _), (13, _), (1, _)]) (h' := [(64, some _)]) 136 _ rfl ⟨⟨_, rfl, Frz.lits2 (enc := encU8) (IntKind.u8.wrap (i : Int)) (IntKind.u8.wrap ((i / 2 ^ 8 : Nat) : Int)) rfl rfl rfl rfl⟩, ⟨_, rfl, .refl _⟩, ⟨_, rfl, .refl _⟩, ⟨_, rfl, .refl _⟩, trivial⟩ ⟨⟨rfl, _, rfl, .refl _⟩, trivial⟩ ?_
    refine reg_quiet rfl (call_r (hWI i hlt) rfl rfl (arg_e (arg_e (arg_e arg_nil))) (.inl rfl) (fun _ => rfl)) ?_
    refine reg_quiet rfl (step_C tab_ok (fun K hk => hk)) ?_
    refine reg_quiet rfl (step_C tab_ok (fun K hk => hk)) ?_
    refine reg_quiet rfl (step_C tab_ok (fun K hk => hk)) ?_
    refine reg_store (store_row tab_ok rfl rfl rfl ⟨_, ⟨rfl, rfl, rfl⟩, rfl⟩ rfl) ?_
    refine reg_quiet rfl (step_C tab_ok (fun K hk => hk)) ?_
    refine reg_nil ?_
    refine seq_n ?_
    refine wc_seq ?_
    refine wc_region ?_
    refine reg_quiet rfl (step_C tab_ok (fun K hk => hk)) ?_
    refine reg_quiet rfl (step_C tab_ok (fun K hk => hk)) ?_
    refine reg_nil ?_
    refine seq_n ?_
    refine wc_false rfl rfl ?_
    refine wc_skip ?_
    refine blk_n ?_
    refine seq_n ?_
    refine wc_region ?_
    refine reg_quiet rfl (step_C tab_ok (fun K hk => hk)) ?_
    refine reg_quiet rfl (add_int tab_ok rfl rfl (wrap_i64 (by omega) (by omega))) ?_
    refine reg_quiet rfl (step_C tab_ok (fun K hk => hk)) ?_
    refine reg_nil ?_
    refine loop_n (i + 1) [(64, some 64)] (show i + 1 ≤ 1000 from hlt) (show 1000 - (i + 1) < 1000 - i by omega) ?_
    exact .of rfl rfl rfl rfl rfl ⟨⟨_, rfl, .refl _⟩, rfl, ⟨_, rfl, .refl _⟩, rfl, trivial⟩ ⟨⟨rfl, rfl, _, rfl, .refl _⟩, trivial⟩
  · obtain rfl : i = 1000 := by have := of_decide_eq_false h3; omega
    refine wc_exit ?_
    refine seq_x ?_
    refine loop_x ?_
    refine blk_x ?_
    refine seq_n ?_
    refine wc_seq ?_
    refine wc_region ?_
    refine reg_quiet rfl (load_box tab_ok rfl rfl rfl rfl) ?_
    refine reg_quiet rfl (call_r hVn rfl rfl (arg_e (arg_e (arg_e arg_nil))) (.inl rfl) (fun _ => rfl)) ?_
    refine reg_quiet rfl (step_C tab_ok (fun K hk => hk)) ?_
    refine reg_quiet rfl (step_C tab_ok (fun K hk => hk)) ?_
    refine reg_quiet rfl (step_C tab_ok (fun K hk => hk)) ?_
    refine reg_quiet rfl (step_C tab_ok (fun K hk => hk)) ?_
    refine reg_quiet rfl (step_C tab_ok (fun K hk => hk)) ?_
    refine reg_nil ?_
    refine seq_n ?_
    refine wc_seq ?_
    refine wc_region ?_
    refine reg_quiet rfl (load_box tab_ok rfl rfl rfl rfl) ?_
    refine reg_quiet rfl (call_r hRp rfl rfl (arg_e (arg_e (arg_e arg_nil))) (.inl rfl) (fun _ => rfl)) ?_
    refine reg_quiet rfl (step_C tab_ok (fun K hk => hk)) ?_
    refine reg_quiet rfl (step_C tab_ok (fun K hk => hk)) ?_
    refine reg_quiet rfl (step_C tab_ok (fun K hk => hk)) ?_
    refine reg_new (step_C tab_ok (fun K hk => hk)) rfl ?_
    refine reg_store (store_row tab_ok rfl rfl rfl ⟨_, ⟨rfl, rfl, rfl⟩, rfl⟩ rfl) ?_
    refine reg_quiet rfl (step_C tab_ok (fun K hk => hk)) ?_
    refine reg_nil ?_
    refine seq_n ?_
    refine wc_seq ?_
    refine wc_region ?_
    refine reg_quiet rfl (load_box tab_ok rfl rfl rfl rfl) ?_
    refine reg_quiet rfl (call_r hRd rfl rfl (arg_e (arg_e arg_nil)) (.inl rfl) (fun _ => rfl)) ?_
    refine reg_quiet rfl (step_C tab_ok (fun K hk => hk)) ?_
    refine reg_quiet rfl (step_C tab_ok (fun K hk => hk)) ?_
    refine reg_quiet rfl (step_C tab_ok (fun K hk => hk)) ?_
    refine reg_quiet rfl (step_C tab_ok (fun K hk => hk)) ?_
    refine reg_quiet rfl (step_C tab_ok (fun K hk => hk)) ?_
    refine reg_nil ?_
    refine seq_n ?_
    refine wc_seq ?_
    refine wc_seq ?_
    refine wc_region ?_
    refine reg_quiet rfl (step_C tab_ok (fun K hk => hk)) ?_
    refine reg_quiet rfl (step_C tab_ok (fun K hk => hk)) ?_
    refine reg_quiet rfl (add_int tab_ok rfl rfl (wrap_i64 (by omega) (by omega))) ?_
    refine reg_quiet rfl (step_C tab_ok (fun K hk => hk)) ?_
    refine reg_quiet rfl (add_int tab_ok rfl rfl (wrap_i64 (by omega) (by omega))) ?_
    refine reg_quiet rfl (step_C tab_ok (fun K hk => hk)) ?_
    refine reg_quiet rfl (step_C tab_ok (fun K hk => hk)) ?_
    refine reg_on rfl rfl rfl ?_
    refine reg_quiet rfl (step_C tab_ok (fun K hk => hk)) ?_
    refine reg_on rfl rfl rfl ?_
    refine reg_quiet rfl (conv_bytesx tab_ok rfl rfl rfl rfl) ?_
    refine reg_on rfl rfl rfl ?_
    refine reg_quiet rfl (neq_str tab_ok rfl rfl rfl) ?_
    refine reg_quiet rfl (pick_F tab_ok rfl rfl rfl) ?_
    refine reg_quiet rfl (step_C tab_ok (fun K hk => hk)) ?_
    refine reg_on rfl rfl rfl ?_
    refine reg_quiet rfl (step_C tab_ok (fun K hk => hk)) ?_
    refine reg_on rfl rfl rfl ?_
    refine reg_quiet rfl (conv_bytesx tab_ok rfl rfl rfl rfl) ?_
    refine reg_on rfl rfl rfl ?_
    refine reg_quiet rfl (neq_str tab_ok rfl rfl rfl) ?_
    refine reg_quiet rfl (pick_F tab_ok rfl rfl rfl) ?_
    refine reg_nil ?_
    refine seq_n ?_
    refine wc_false rfl rfl ?_
    refine wc_skip ?_
    refine seq_n ?_
    refine wc_seq ?_
    refine wc_region ?_
    refine reg_new (step_C tab_ok (fun K hk => hk)) rfl ?_
    refine reg_nil ?_
    refine seq_n ?_
    refine wc_seq ?_
    refine wc_region ?_
    refine reg_quiet rfl (load_box tab_ok rfl rfl rfl rfl) ?_
    refine reg_quiet rfl (call_r hZr rfl rfl (arg_d rfl trivial zero_dle (arg_e arg_nil)) (.inl rfl) (fun _ => rfl)) ?_
    refine reg_quiet rfl (step_C tab_ok (fun K hk => hk)) ?_
    refine reg_quiet rfl (step_C tab_ok (fun K hk => hk)) ?_
    refine reg_quiet rfl (step_C tab_ok (fun K hk => hk)) ?_
    refine reg_quiet rfl (step_C tab_ok (fun K hk => hk)) ?_
    refine reg_nil ?_
    refine seq_n ?_
    refine wc_seq ?_
    refine wc_region ?_
    refine reg_quiet rfl (load_box tab_ok rfl rfl rfl rfl) ?_
    refine reg_quiet rfl (call_r hZw rfl rfl (arg_d rfl trivial zero_dle (arg_e (arg_nilslice arg_nil))) (.inl rfl) (fun _ => rfl)) ?_
    refine reg_quiet rfl (step_C tab_ok (fun K hk => hk)) ?_
    refine reg_quiet rfl (step_C tab_ok (fun K hk => hk)) ?_
    refine reg_quiet rfl (step_C tab_ok (fun K hk => hk)) ?_
    refine reg_quiet rfl (step_C tab_ok (fun K hk => hk)) ?_
    refine reg_nil ?_
    refine seq_n ?_
    refine wc_seq ?_
    refine wc_region ?_
    refine reg_quiet rfl (step_C tab_ok (fun K hk => hk)) ?_
    refine reg_quiet rfl (step_C tab_ok (fun K hk => hk)) ?_
    refine reg_quiet rfl (step_C tab_ok (fun K hk => hk)) ?_
    refine reg_on rfl rfl rfl ?_
    refine reg_quiet rfl (step_C tab_ok (fun K hk => hk)) ?_
    refine reg_on rfl rfl rfl ?_
    refine reg_quiet rfl (step_C tab_ok (fun K hk => hk)) ?_
    refine reg_quiet rfl (pick_T tab_ok rfl rfl rfl) ?_
    refine reg_quiet rfl (step_C tab_ok (fun K hk => hk)) ?_
    refine reg_on rfl rfl rfl ?_
    refine reg_quiet rfl (load_box tab_ok rfl rfl rfl rfl) ?_
    refine reg_on rfl rfl rfl ?_
    refine reg_quiet rfl (call_r (size_is zeroK) rfl rfl (arg_d rfl trivial zero_dle arg_nil) (.inl rfl) (fun _ => rfl)) ?_
    refine reg_on rfl rfl rfl ?_
    refine reg_quiet rfl (step_C tab_ok (fun K hk => hk)) ?_
    refine reg_quiet rfl (pick_T tab_ok rfl rfl rfl) ?_
    refine reg_quiet rfl (step_C tab_ok (fun K hk => hk)) ?_
    refine reg_on rfl rfl rfl ?_
    refine reg_quiet rfl (load_box tab_ok rfl rfl rfl rfl) ?_
    refine reg_on rfl rfl rfl ?_
    refine reg_new (call_new hZp rfl rfl (arg_d rfl trivial zero_dle arg_nil) (.inl rfl) rfl rfl) rfl ?_
    refine reg_on rfl rfl rfl ?_
    refine reg_quiet rfl (len_own tab_ok rfl rfl) ?_
    refine reg_on rfl rfl rfl ?_
    refine reg_quiet rfl (step_C tab_ok (fun K hk => hk)) ?_
    refine reg_quiet rfl (pick_T tab_ok rfl rfl rfl) ?_
    refine reg_quiet rfl (step_C tab_ok (fun K hk => hk)) ?_
    refine reg_on rfl rfl rfl ?_
    refine reg_quiet rfl (load_box tab_ok rfl rfl rfl rfl) ?_
    refine reg_on rfl rfl rfl ?_
    refine reg_quiet rfl (build_struct tab_ok rfl rfl rfl rfl) ?_
    refine reg_on rfl rfl rfl ?_
    refine reg_quiet rfl (call_r same_zero rfl rfl (arg_d rfl trivial zero_dle (arg_d rfl trivial zero_dle arg_nil)) (.inl rfl) (fun _ => rfl)) ?_
    refine reg_quiet rfl (pick_T tab_ok rfl rfl rfl) ?_
    refine reg_quiet rfl (step_C tab_ok (fun K hk => hk)) ?_
    refine reg_on rfl rfl rfl ?_
    refine reg_quiet rfl (load_box tab_ok rfl rfl rfl rfl) ?_
    refine reg_on rfl rfl rfl ?_
    refine reg_quiet rfl (load_box tab_ok rfl rfl rfl rfl) ?_
    refine reg_on rfl rfl rfl ?_
    refine reg_quiet rfl (call_r (same_zd (dI 1000) hz) rfl rfl (arg_d rfl trivial zero_dle (arg_e arg_nil)) (.inl rfl) (fun _ => rfl)) ?_
    refine reg_on rfl rfl rfl ?_
    refine reg_quiet rfl (step_C tab_ok (fun K hk => hk)) ?_
    refine reg_quiet rfl (pick_T tab_ok rfl rfl rfl) ?_
    refine reg_quiet rfl (step_C tab_ok (fun K hk => hk)) ?_
    refine reg_on rfl rfl rfl ?_
    refine reg_quiet rfl (call_r lives_is rfl rfl arg_nil (.inl rfl) (fun _ => rfl)) ?_
    refine reg_quiet rfl (pick_T tab_ok rfl rfl rfl) ?_
    refine reg_quiet rfl (step_C tab_ok (fun K hk => hk)) ?_
    refine reg_nil ?_
    refine seq_n ?_
    refine wc_ret ?_
    exact ⟨trivial, [], .of rfl rfl rfl rfl rfl ⟨⟨_, rfl, AVLe.of_eq rfl⟩, rfl, trivial⟩ trivial⟩
end Go.Proofs.Ytfmemklkkmiicaa

/- DisksKnown: the law. -/
namespace Go.Proofs.Ytfmemklkkmiicaa
open Go.Eng
/-- The versions of sector 64 behind n writes. -/
def vsI : Nat → Vs
  | 0 => []
  | n + 1 => ⟨true, bI n⟩ :: vsI n
theorem vsI_len (n : Nat) : (vsI n).length = n := by
  induction n with
  | zero => rfl
  | succ n ih => simp [vsI, ih]
abbrev N0 : Nat := 10922
def dN (d : Dk) : Nat → Dk
  | 0 => d
  | n + 1 => put (dN d n) 64 (chunkAt (dN d n) 64) (vsI n) ⟨true, bI n⟩
def mN (M : List Vs) : Nat → List Vs
  | 0 => M
  | n + 1 => (mN M n).set 64 (⟨true, bI n⟩ :: vsI n)
theorem runs {d : Dk} {M : List Vs} (h : Rep N0 3 d M) (h0 : verAt M 64 = []) : ∀ n, n ≤ 1000 → Rep N0 (3 + n) (dN d n) (mN M n) ∧ verAt (mN M n) 64 = vsI n
  | 0, _ => ⟨h, h0⟩
  | n + 1, hn => by
    obtain ⟨r, hv⟩ := runs h h0 n (by omega)
    have r2 := r.put (by omega) (s := 64) (by decide) ⟨true, bI n⟩ (show (2 : Nat) ≤ 256 by decide) (fun h => by cases h)
    rw [hv] at r2
    refine ⟨r2, ?_⟩
    show verAt ((mN M n).set 64 _) 64 = _
    rw [verAt_set (by rw [r.l]; decide), if_pos rfl]
    rfl
theorem known_is : FnIs Try.prog 8 [] [] (.bool true) [] := by
  have r0 := rep_init (N := N0) (by decide)
  obtain ⟨d0, hd0⟩ : ∃ d, d = initD N0 := ⟨_, rfl⟩
  have hNew : FnIs Try.prog 9 [.d (i6 10922)] [] (tup2 (encDk d0) (i6 0)) [] := by rw [hd0]; exact new_ok N0 _ rfl (by decide)
  rw [← hd0] at r0
  obtain ⟨M0, hM0⟩ : ∃ M : List Vs, M = List.replicate N0 [] := ⟨_, rfl⟩
  rw [← hM0] at r0
  have hl0 : M0.length = N0 := r0.l
  have v0 : ∀ s, s < N0 → verAt M0 s = [] := fun s hs => by rw [hM0, verAt, List.getElem?_replicate, if_pos hs]; rfl
  have w1 := write_ok d0 10921 z256 _ _ (r0.at (by decide)) (by rw [show z256.length = 256 from List.length_replicate]; decide)
  obtain ⟨d1, hd1, r1⟩ := r0.put2 (by decide) (s := 10921) (by decide) ⟨true, z256⟩ (by rw [show z256.length = 256 from List.length_replicate]; decide) (by intro h; cases h)
  rw [← hd1] at w1
  rw [v0 10921 (by decide)] at r1
  obtain ⟨M1, hM1⟩ : ∃ M : List Vs, M = M0.set 10921 [⟨true, z256⟩] := ⟨_, rfl⟩
  rw [← hM1] at r1
  have v1 : ∀ s, s < N0 → verAt M1 s = if s = 10921 then [⟨true, z256⟩] else [] := fun s hs => by
    rw [hM1, verAt_set (by rw [hl0]; decide)]
    split
    · rfl
    · exact v0 s hs
  have w2 := write_ok d1 0 [] _ _ (r1.at (by decide)) (by decide)
  obtain ⟨d2, hd2, r2⟩ := r1.put2 (by decide) (s := 0) (by decide) ⟨true, []⟩ (by decide) (by decide)
  rw [← hd2] at w2
  rw [v1 0 (by decide), if_neg (by decide)] at r2
  obtain ⟨M2, hM2⟩ : ∃ M : List Vs, M = M1.set 0 [⟨true, []⟩] := ⟨_, rfl⟩
  rw [← hM2] at r2
  have v2 : ∀ s, s < N0 → verAt M2 s = if s = 0 then [⟨true, []⟩] else if s = 10921 then [⟨true, z256⟩] else [] := fun s hs => by
    rw [hM2, verAt_set (by rw [r1.l]; decide)]
    split
    · rfl
    · exact v1 s hs
  have w3 := erase_ok d2 5000 _ _ (r2.at (by decide))
  obtain ⟨d3, hd3, r3⟩ := r2.put2 (by decide) (s := 5000) (by decide) ⟨false, []⟩ (by decide) (by decide)
  rw [← hd3] at w3
  rw [v2 5000 (by decide), if_neg (by decide), if_neg (by decide)] at r3
  obtain ⟨M3, hM3⟩ : ∃ M : List Vs, M = M2.set 5000 [⟨false, []⟩] := ⟨_, rfl⟩
  rw [← hM3] at r3
  have v3 : ∀ s, s < N0 → verAt M3 s = if s = 5000 then [⟨false, []⟩] else if s = 0 then [⟨true, []⟩] else if s = 10921 then [⟨true, z256⟩] else [] := fun s hs => by
    rw [hM3, verAt_set (by rw [r2.l]; decide)]
    split
    · rfl
    · exact v2 s hs
  have a1 := r3.at (s := 10921) (by decide)
  have a2 := r3.at (s := 0) (by decide)
  have a3 := r3.at (s := 5000) (by decide)
  have hR1 := read_ok d3 10921 _ _ a1
  have hR2 := read_ok d3 0 _ _ a2
  have hR3 := read_ok d3 5000 _ _ a3
  rw [v3 10921 (by decide), if_neg (by decide), if_neg (by decide), if_pos rfl] at hR1
  rw [v3 0 (by decide), if_neg (by decide), if_pos rfl] at hR2
  rw [v3 5000 (by decide), if_pos rfl] at hR3
  have hpr : presK d3 10922 = [0, 10921] := by
    have e : (List.range 10922).filter (fun i => (topV (vat d3 i)).there) = (List.range 10922).filter (fun i => i == 0 || i == 10921) := by
      refine List.filter_congr fun i hi => ?_
      have hi := List.mem_range.1 hi
      rw [r3.v i hi, v3 i hi]
      by_cases h5 : i = 5000
      · rw [if_pos h5, h5]; rfl
      · rw [if_neg h5]
        by_cases h0 : i = 0
        · rw [if_pos h0, h0]; rfl
        · rw [if_neg h0]
          by_cases h9 : i = 10921
          · rw [if_pos h9, h9]; rfl
          · rw [if_neg h9]
            simp [topV, h0, h9]
    rw [presK, e, show (List.range 10922).filter (fun i => i == 0 || i == 10921) = [0, 10921] by decide +kernel]
    rfl
  have hP := present_is d3 10922 (by decide) r3.good
  rw [hpr] at hP
  have hl256 : z256.length = 256 := List.length_replicate
  have hW1 : FnIs Try.prog 23 [.d (encDk d0), .d (i6 10921), .own 0 0 256 1 none] [(0, .ds 5 1 true encU8 z256)] (tup2 (encDk d1) (i6 0)) [] :=
    FnIs.freeze (avs' := [.d (encDk d0), .d (i6 10921), .d (.arr 1 encU8 z256)]) (h0' := []) 0 (.ds 5 1 true encU8 z256) rfl ⟨⟨_, rfl, .refl _⟩, ⟨_, rfl, .refl _⟩, ⟨_, rfl, Frz.own hl256.symm⟩, trivial⟩ trivial rfl w1
  have h64 : verAt M3 64 = [] := by rw [v3 64 (by decide), if_neg (by decide), if_neg (by decide), if_neg (by decide)]
  have hrun := runs r3 h64
  obtain ⟨rK, vK⟩ := hrun 1000 (Nat.le_refl _)
  have aK := rK.at (s := 64) (by decide)
  rw [vK] at aK
  have hVn := version_ok _ 64 600 _ _ aK (by rw [vsI_len]; decide)
  rw [vsI_len, show (vsI 1000).drop (1000 - 600) = ⟨true, [87, 2]⟩ :: vsI 599 by decide +kernel] at hVn
  have hRp := replay_ok _ 64 999 _ _ aK (by rw [vsI_len]; decide)
  rw [show (vsI 1000).drop 999 = [⟨true, [0, 0]⟩] by decide +kernel] at hRp
  have rL := rK.put (by decide) (s := 64) (by decide) ⟨true, [0, 0]⟩ (by decide) (by decide)
  rw [vK] at rL
  have hRd := read_ok _ 64 _ _ (rL.at (s := 64) (by decide))
  rw [verAt_set (by rw [rK.l]; decide), if_pos rfl] at hRd
  have zg : Good 0 zeroK := ⟨rfl, fun s hs => absurd hs (Nat.not_lt_zero _)⟩
  refine known_core d0 d1 d2 _ (dN d3) hNew hW1 w2 w3 hR1 hR2 hR3 hP (by rw [hl256]; decide) ?_ (fun i hi => ?_) hVn hRp hRd (by decide +kernel) (by decide +kernel) (read_bad zeroK 0 (by decide)) (write_bad zeroK 0 [] (by decide)) (present_is zeroK 0 (by decide) zg) ?_
  · show (!decide (d3.ch = 3)) = false
    rw [hd3, hd2, hd1, hd0]
    rfl
  · obtain ⟨r, hv⟩ := hrun i (by omega)
    have a := r.at (s := 64) (by decide)
    rw [hv] at a
    exact write_ok _ 64 (bI i) _ _ a (by show decide (256 < (2 : Int)) = false; decide)
  · have : (dN d3 1000).n = 10922 := rK.n
    rw [this]
    decide
end Go.Proofs.Ytfmemklkkmiicaa

/- DisksKnown: the walked law is the statement. -/
namespace Go.Proofs.Ytfmemklkkmiicaa
open Go.ChangeShapes Go.WideShapes Go.ChangeAt Go.RowKit Go.Eng
theorem own : ownKnob Try.prog.godebug = none := by kernel_rfl
theorem laidOut : laidOutB Try.prog = true := by kernel_rfl
set_option maxRecDepth 100000 in
theorem lifted (os : Os) (started : os.Started) (H : Type) (enc : TypeId × Value → H) :
    ReturnsInHanded {} Try.checked os 8 .any (Rows.disksKnownSpec.pre6 enc Try.prog Try.f8 Rows.disksKnownRow.domain false) (Rows.disksKnownSpec.post enc Try.prog Try.f8 false true false false) := by
  refine returnsInHanded_of_change (C := Try.checked) own started (by kernel_rfl) Try.func8
    (ChangeSpec.witness6 (enc := enc) (C := Try.checked) false ⟨#[], #[], []⟩ 8 (by kernel_rfl) (by kernel_rfl) (by kernel_rfl) (by kernel_rfl)) ?_
  intro W base args ds gs before hval0 hW hcnd _
  have hval : ∀ (j : Nat) t v, Try.f8.params[j]? = some t → args[j]? = some v → Value.okWide Try.prog W .any base t v := hval0
  have hW' := hW
  obtain ⟨p, q, hA0, hV, rfl, hfz, hnd⟩ := hW
  have hA : DataW.TrodAll enc Try.prog W 0 (fun _ => true) true Try.f8.params.toList args.toList ds p := hA0
  rw [Try.params8] at hA hval
  obtain ⟨hargs, rfl, rfl⟩ := trodAll_nil hA
  obtain rfl : args = #[] := Array.ext' (by simpa using hargs)
  obtain ⟨rfl, rfl⟩ := trodVars_none hV
  clear hA0 hval0
  refine (law_calls (known_is) (W := W) (args := #[]) rfl).mono fun e W' ⟨he, bel⟩ => ?_
  subst he
  exact ⟨_, rfl, _, _, _, [], _, [], hW', trodAll_mk1 (shut_bool Try.underlying4 _), trodAll_mk0, rfl, bel.frame _, fun h => by cases h⟩

theorem over : Rows.disksKnownRow.holds Try.pinned (OpenSpec.ofChange Rows.disksKnownSpec) :=
  OpenClaim.holds_of_wide 8 Try.f8 rfl rfl rfl rfl rfl rfl rfl ⟨rfl, rfl, rfl, rfl, rfl⟩ rfl rfl rfl rfl rfl (by kernel_rfl) Try.func8 (by kernel_rfl)
    (of_decide_eq_true (by kernel_rfl)) (by unfold Func.isWrapper; first | (rw [if_pos (by decide +kernel)]; kernel_rfl) | (rw [if_neg (by decide +kernel)]; exact ⟨rfl, rfl⟩))
    (fun os started H enc _ => lifted os started H enc)
theorem disksKnown_holds : Rows.DisksKnownSaid := over
end Go.Proofs.Ytfmemklkkmiicaa
