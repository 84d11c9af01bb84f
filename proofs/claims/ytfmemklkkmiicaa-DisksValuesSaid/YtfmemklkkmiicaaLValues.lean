/- No call changes a disk that exists already, and neither do bytes that were written or read. No condition. -/
import Derived.Test.YtfmemklkkmiicaaDC
import Derived.Test.YtfmemklkkmiicaaEngD
import Derived.SizedLaws
import Derived.Test.YtfmemklkkmiicaaRows

set_option linter.unusedVariables false
set_option linter.unusedSimpArgs false

/- DisksOther: the law. -/
namespace Go.Proofs.Ytfmemklkkmiicaa
open Go.Eng
theorem refL_len (M : List Vs) : (refL M).length = M.length := by simp [refL]
theorem Rep.last {N j : Nat} {d : Dk} {M : List Vs} (h : Rep N j d M) {i : Nat} (hi : i < N) : FnIs Try.prog 20 [.d (encRD (refL M)), .d (i6 i)] [] (.d (encV (topV (verAt M i)))) [] := by
  have hiM : i < M.length := by rw [h.l]; exact hi
  have hv := h.vlen hi
  have hj := h.jb
  refine last_is (refL M) i (hist (verAt M i)) (topV (verAt M i)) (by rw [hist_len]; omega) (by rw [hist_len]; omega) (by rw [Int.toNat_natCast]; exact refL_get hiM) ?_
  have := hist_get (verAt M i) 0 (Nat.zero_le _)
  rw [show (((hist (verAt M i)).length : Int) - 1).toNat = (verAt M i).length - 0 by rw [hist_len]; omega]
  exact this
theorem other_is (z : Int) (ops : List Opr) (y : Opr) (t : Int) (h : 0 ≤ z ∧ z ≤ 255) (hl : ∀ o ∈ ops, OpOk o) (hy : OpOk y) (ht : 0 ≤ t ∧ t ≤ 255) : FnIs Try.prog 6 [.d (encX (z, ops)), .d (encOpr y), .d (u8s t)] [] (.bool true) [] := by
  obtain ⟨h1, h2, -⟩ := size_ok h
  obtain ⟨N, hN⟩ : ∃ N, N = sizeN z := ⟨_, rfl⟩
  have hOf := of_is z ops h hl
  have hRef := refOf_is z ops h hl
  rw [← hN] at h1 h2 hOf hRef
  have rep := rep_run (N := N) ⟨h1, by omega⟩ ops hl (min ops.length 60) (by omega)
  obtain ⟨d, hd⟩ : ∃ d, d = runD N ops (min ops.length 60) := ⟨_, rfl⟩
  obtain ⟨M, hM⟩ : ∃ M, M = runM N ops (min ops.length 60) := ⟨_, rfl⟩
  obtain ⟨j, hj⟩ : ∃ j, j = min ops.length 60 := ⟨_, rfl⟩
  have hj60 : j ≤ 60 := by omega
  rw [← hd, ← hM, ← hj] at rep
  rw [← hd] at hOf
  rw [← hM] at hRef
  have rep2 := rep.step (by omega) y hy
  obtain ⟨hs, hse⟩ := sec_lt y hy (N := N) h1
  have ti0 : 0 ≤ t.tmod (N : Int) := Int.tmod_nonneg _ ht.1
  have ti1 : t.tmod (N : Int) < N := Int.tmod_lt_of_pos _ (by omega)
  obtain ⟨i, hi⟩ : ∃ i : Nat, t.tmod (N : Int) = i := ⟨(t.tmod (N : Int)).toNat, by omega⟩
  have hiN : i < N := by omega
  obtain ⟨p, q, hpq, hcon⟩ := contR_ab (verAt (stepM y M) i)
  have hRead := read_ok _ i _ _ (rep2.at hiN)
  rw [hpq] at hRead
  have hsM : sec y N < M.length := by rw [rep.l]; exact hs
  by_cases he : errM y M = 0
  · -- the change was made
    have hst : stepM y M = M.set (sec y N) ((chg y (verAt M (sec y N))).2 :: verAt M (sec y N)) := by
      unfold stepM
      unfold errM at he
      rw [rep.l] at he ⊢
      rw [if_pos he]
    have hvs : verAt (stepM y M) (sec y N) = (chg y (verAt M (sec y N))).2 :: verAt M (sec y N) := by rw [hst, verAt_set hsM, if_pos rfl]
    have hA2 := rep2.at hs
    have hR := replay_ok _ (sec y N) 1 _ _ hA2 (by rw [hvs]; simp)
    have rep3 := rep2.put (by omega) hs (topV ((verAt (stepM y M) (sec y N)).drop 1)) (by
      rw [hvs]
      show (topV (verAt M (sec y N))).b.length ≤ 256
      cases hv : verAt M (sec y N) with
      | nil => simp [topV]
      | cons x l => exact rep.b _ (rep.vmem hs) x (by rw [hv]; simp)) (by
      rw [hvs]
      show (topV (verAt M (sec y N))).there = false → _
      cases hv : verAt M (sec y N) with
      | nil => intro _; rfl
      | cons x l => exact rep.a _ (rep.vmem hs) x (by rw [hv]; simp))
    obtain ⟨p2, q2, hpq2, hcon2⟩ := contR_ab (verAt ((stepM y M).set (sec y N) (topV ((verAt (stepM y M) (sec y N)).drop 1) :: verAt (stepM y M) (sec y N))) (sec y N))
    have hRd2 := read_ok _ (sec y N) _ _ (rep3.at hs)
    rw [hpq2] at hRd2
    rw [verAt_set (by rw [stepM_len]; exact hsM), if_pos rfl, hvs] at hcon2
    refine other_core z ops y t h hy ht N _ i hN ⟨h1, h2⟩ d _ _ _ _ _ hse hi p q p2 q2 (topV (verAt M i)) (topV (verAt M (sec y N))) hOf hRef (do_is rep y hy) (ref_is rep y hy) hRead (fun hne => ⟨rep.last hiN, ?_⟩) (fun hne => absurd he hne) (fun _ => ⟨hR, hRd2, rep.last hs, hcon2⟩)
    rw [hst, verAt_set hsM, if_neg hne] at hcon
    exact hcon
  · have hst : stepM y M = M := by
      unfold stepM
      unfold errM at he
      rw [if_neg he]
    refine other_core z ops y t h hy ht N _ i hN ⟨h1, h2⟩ d _ zeroK _ _ _ hse hi p q (.sc nil_) (.sc nil_) (topV (verAt M i)) noV hOf hRef (do_is rep y hy) (ref_is rep y hy) hRead (fun hne => ⟨rep.last hiN, ?_⟩) (fun _ => ?_) (fun e => absurd e he)
    · rw [hst] at hcon
      exact hcon
    · have := equal_is rep2
      rw [hst] at this
      exact this
end Go.Proofs.Ytfmemklkkmiicaa

/- Disks: changes with bytes that the caller owns; contents that the caller owns. -/
namespace Go.Proofs.Ytfmemklkkmiicaa
open Go.Eng
set_option maxHeartbeats 8000000
set_option maxRecDepth 4000
set_option linter.unusedVariables false
attribute [local irreducible] WC RegS RegD SeqQ BlkQ ScoQ RegK CutK Sat SatN FnIs LoopQ StepIs OpIs
abbrev rowU (ex : Bool) (l : List Int) : Row := .ds 5 1 ex encU8 l
abbrev yO (o : Opr) (n : Nat) : AV := .acons (.d (u8s o.kind)) (.acons (.d (u8s o.sector)) (.acons (.d (u8s o.back)) (.acons (.own 0 0 n 1 none) (.d .nil))))
theorem clone_own (l : List Int) (ex : Bool) (hp : 0 < l.length) (hlen : l.length ≤ 1048576) : FnIs Try.prog 37 [.own 0 0 l.length 1 none] [(0, rowU ex l)] (.own 64 0 l.length 1 none) [(0, rowU ex l), (64, rowU false l)] := by
  refine fnIs_of tab_ok Try.func37 rfl rfl rfl ?_
  refine wc_seq ?_
  refine wc_region ?_
  refine reg_quiet rfl (step_C tab_ok (fun K hk => hk)) ?_
  refine reg_nil ?_
  refine seq_n ?_
  refine wc_seq ?_
  refine wc_seq ?_
  refine wc_region ?_
  refine reg_quiet rfl (step_C tab_ok (fun K hk => hk)) ?_
  refine reg_quiet rfl (eql_own_nil tab_ok rfl rfl rfl hp) ?_
  refine reg_nil ?_
  refine seq_n ?_
  refine wc_false rfl rfl ?_
  refine wc_skip ?_
  refine seq_n ?_
  refine wc_seq ?_
  refine wc_region ?_
  refine reg_quiet rfl (build_empty tab_ok rfl rfl) ?_
  refine reg_quiet rfl (step_C tab_ok (fun K hk => hk)) ?_
  refine reg_new (append_empty_own tab_ok rfl rfl rfl rfl rfl (.inl rfl) rfl rfl rfl hp hlen rfl) rfl ?_
  refine reg_quiet rfl (step_C tab_ok (fun K hk => hk)) ?_
  refine reg_nil ?_
  refine seq_n ?_
  refine wc_ret ?_
  exact ⟨trivial, [(64, some 104)], .of rfl rfl rfl rfl rfl ⟨⟨_, rfl, AVLe.of_eq rfl⟩, rfl, trivial⟩ ⟨⟨rfl, rfl, _, rfl, .refl _⟩, ⟨rfl, rfl, _, rfl, .refl _⟩, trivial⟩⟩
theorem writeO_long (d : Dk) (s : Nat) (b : List Int) (ex : Bool) (c : List Vs) (v : Vs) (h : At d s c v) (hl : decide (256 < (b.length : Int)) = true) : FnIs Try.prog 23 [.d (encDk d), .d (i6 s), .own 0 0 b.length 1 none] [(0, rowU ex b)] (tup2 (encDk zeroK) (i6 3)) [(0, rowU ex b)] := by
  have hN := h.new
  refine fnIs_of tab_ok Try.func23 rfl rfl rfl ?_
  refine wc_seq ?_
  refine wc_region ?_
  refine reg_new (step_C tab_ok (fun K hk => hk)) rfl ?_
  refine reg_new (step_C tab_ok (fun K hk => hk)) rfl ?_
  refine reg_quiet rfl (step_C tab_ok (fun K hk => hk)) ?_
  refine reg_nil ?_
  refine seq_n ?_
  refine wc_seq ?_
  refine wc_seq ?_
  refine wc_region ?_
  refine reg_quiet rfl (load_box tab_ok rfl rfl rfl rfl) ?_
  refine reg_quiet rfl (step_C tab_ok (fun K hk => hk)) ?_
  refine reg_quiet rfl (call_r hN rfl rfl (arg_e (arg_e arg_nil)) (.inl rfl) (fun _ => rfl)) ?_
  refine reg_quiet rfl (step_C tab_ok (fun K hk => hk)) ?_
  refine reg_quiet rfl (step_C tab_ok (fun K hk => hk)) ?_
  refine reg_quiet rfl (step_C tab_ok (fun K hk => hk)) ?_
  refine reg_quiet rfl (step_C tab_ok (fun K hk => hk)) ?_
  refine reg_quiet rfl (step_C tab_ok (fun K hk => hk)) ?_
  refine reg_nil ?_
  refine seq_n ?_
  refine wc_seq ?_
  refine wc_region ?_
  refine reg_quiet rfl (step_C tab_ok (fun K hk => hk)) ?_
  refine reg_quiet rfl (step_C tab_ok (fun K hk => hk)) ?_
  refine reg_nil ?_
  refine seq_n ?_
  refine wc_false rfl rfl ?_
  refine wc_skip ?_
  refine seq_n ?_
  refine wc_seq ?_
  refine wc_seq ?_
  refine wc_region ?_
  refine reg_quiet rfl (step_C tab_ok (fun K hk => hk)) ?_
  refine reg_quiet rfl (len_own tab_ok rfl rfl) ?_
  refine reg_quiet rfl (step_C tab_ok (fun K hk => hk)) ?_
  refine reg_nil ?_
  refine seq_n ?_
  refine wc_true rfl (by assumption) ?_
  refine wc_seq ?_
  refine wc_region ?_
  refine reg_quiet rfl (build_struct tab_ok rfl rfl rfl rfl) ?_
  refine reg_store (store_row tab_ok rfl rfl rfl ⟨_, ⟨rfl, rfl, rfl⟩, rfl⟩ rfl) ?_
  refine reg_quiet rfl (step_C tab_ok (fun K hk => hk)) ?_
  refine reg_nil ?_
  refine seq_n ?_
  refine wc_ret ?_
  refine seq_r ?_
  exact ⟨trivial, _, rfl, [], .of rfl rfl rfl rfl rfl ⟨⟨_, rfl, AVLe.tup1 zero_le rfl⟩, rfl, trivial⟩ ⟨⟨rfl, rfl, _, rfl, .refl _⟩, trivial⟩⟩
theorem writeO_ok (d : Dk) (s : Nat) (b : List Int) (ex : Bool) (c : List Vs) (v : Vs) (h : At d s c v) (hp : 0 < b.length) (hl : decide (256 < (b.length : Int)) = false) : FnIs Try.prog 23 [.d (encDk d), .d (i6 s), .own 0 0 b.length 1 none] [(0, rowU ex b)] (tup2 (encDk (put d s c v ⟨true, b⟩)) (i6 0)) [(0, rowU ex b)] := by
  have hN := h.new
  have hl' := of_decide_eq_false hl
  have hlen : b.length ≤ 1048576 := by omega
  have hW : FnIs Try.prog 36 [.d (encDk d), .d (i6 s), .d (bo true), .own 0 0 b.length 1 none] [(0, .ds 5 1 false encU8 b)] (.d (encDk (put d s c v ⟨true, b⟩))) [] :=
    FnIs.freeze (avs' := [.d (encDk d), .d (i6 s), .d (bo true), .d (.arr 1 encU8 b)]) (h0' := []) 0 (.ds 5 1 false encU8 b) rfl ⟨⟨_, rfl, .refl _⟩, ⟨_, rfl, .refl _⟩, ⟨_, rfl, .refl _⟩, ⟨_, rfl, Frz.own rfl⟩, trivial⟩ trivial rfl (h.with ⟨true, b⟩)
  refine fnIs_of tab_ok Try.func23 rfl rfl rfl ?_
  refine wc_seq ?_
  refine wc_region ?_
  refine reg_new (step_C tab_ok (fun K hk => hk)) rfl ?_
  refine reg_new (step_C tab_ok (fun K hk => hk)) rfl ?_
  refine reg_quiet rfl (step_C tab_ok (fun K hk => hk)) ?_
  refine reg_nil ?_
  refine seq_n ?_
  refine wc_seq ?_
  refine wc_seq ?_
  refine wc_region ?_
  refine reg_quiet rfl (load_box tab_ok rfl rfl rfl rfl) ?_
  refine reg_quiet rfl (step_C tab_ok (fun K hk => hk)) ?_
  refine reg_quiet rfl (call_r hN rfl rfl (arg_e (arg_e arg_nil)) (.inl rfl) (fun _ => rfl)) ?_
  refine reg_quiet rfl (step_C tab_ok (fun K hk => hk)) ?_
  refine reg_quiet rfl (step_C tab_ok (fun K hk => hk)) ?_
  refine reg_quiet rfl (step_C tab_ok (fun K hk => hk)) ?_
  refine reg_quiet rfl (step_C tab_ok (fun K hk => hk)) ?_
  refine reg_quiet rfl (step_C tab_ok (fun K hk => hk)) ?_
  refine reg_nil ?_
  refine seq_n ?_
  refine wc_seq ?_
  refine wc_region ?_
  refine reg_quiet rfl (step_C tab_ok (fun K hk => hk)) ?_
  refine reg_quiet rfl (step_C tab_ok (fun K hk => hk)) ?_
  refine reg_nil ?_
  refine seq_n ?_
  refine wc_false rfl rfl ?_
  refine wc_skip ?_
  refine seq_n ?_
  refine wc_seq ?_
  refine wc_seq ?_
  refine wc_region ?_
  refine reg_quiet rfl (step_C tab_ok (fun K hk => hk)) ?_
  refine reg_quiet rfl (len_own tab_ok rfl rfl) ?_
  refine reg_quiet rfl (step_C tab_ok (fun K hk => hk)) ?_
  refine reg_nil ?_
  refine seq_n ?_
  refine wc_false rfl (by assumption) ?_
  refine wc_skip ?_
  refine seq_n ?_
  refine wc_seq ?_
  refine wc_draw (by kernel_rfl) ?_
  refine dreg_q [3] [64] rfl (load_box tab_ok rfl rfl rfl rfl) ?_
  refine dreg_q [1] [] rfl (step_C tab_ok (fun K hk => hk)) ?_
  refine dreg_q [2] [0] rfl (step_C tab_ok (fun K hk => hk)) ?_
  refine dreg_step rfl (call_h [(0, some 0)] (clone_own b ex hp hlen) rfl rfl rfl (arg_give rfl rfl arg_nil) ⟨⟨rfl, rfl, _, _, rfl, rfl, .refl _⟩, trivial⟩ rfl rfl (.inl rfl) rfl rfl) rfl rfl ?_
  refine dreg_w [24, 25, 27] [216] rfl (call_h [(0, some 216)] hW rfl rfl rfl (arg_e (arg_e (arg_e (arg_give rfl rfl arg_nil)))) ⟨⟨rfl, rfl, _, _, rfl, rfl, .refl _⟩, trivial⟩ rfl rfl (.inl rfl) rfl rfl) ?_
  refine dreg_s [6, 28] [72] (store_row tab_ok rfl rfl rfl ⟨_, ⟨rfl, rfl, rfl⟩, rfl⟩ rfl) ?_
  refine dreg_q [] [] rfl (step_C tab_ok (fun K hk => hk)) ?_
  refine dreg_end (by kernel_rfl) ?_
  refine seq_n ?_
  refine wc_ret ?_
  exact ⟨trivial, _, rfl, [], .of rfl rfl rfl rfl rfl ⟨⟨_, rfl, AVLe.of_eq rfl⟩, rfl, trivial⟩ ⟨⟨rfl, rfl, _, rfl, .refl _⟩, trivial⟩⟩
theorem doO_w (o : Opr) (l : List Int) (ex : Bool) (ho : OpOk o) (d d2 : Dk) (N s : Nat) (hN : 1 ≤ N ∧ N ≤ 10922) (hs : o.sector.tmod (N : Int) = s) (hk : o.kind.tmod 3 = 0) 
    (hC : FnIs Try.prog 23 [.d (encDk d), .d (i6 s), .own 0 0 l.length 1 none] [(0, rowU ex l)] (tup2 (encDk d2) (i6 0)) [(0, rowU ex l)]) : FnIs Try.prog 13 [yO o l.length, .d (encDk d), .d (i6 N)] [(0, rowU ex l)] (tup2 (encDk d2) (i6 0)) [(0, rowU ex l)] := by
  obtain ⟨⟨_, _⟩, ⟨_, _⟩, ⟨_, _⟩⟩ := ho
  refine fnIs_of tab_ok Try.func13 rfl rfl rfl ?_
  refine wc_seq ?_
  refine wc_region ?_
  refine reg_new (step_C tab_ok (fun K hk => hk)) rfl ?_
  refine reg_new (step_C tab_ok (fun K hk => hk)) rfl ?_
  refine reg_new (step_C tab_ok (fun K hk => hk)) rfl ?_
  refine reg_quiet rfl (step_C tab_ok (fun K hk => hk)) ?_
  refine reg_nil ?_
  refine seq_n ?_
  refine wc_seq ?_
  refine wc_region ?_
  refine reg_quiet rfl (step_C tab_ok (fun K hk => hk)) ?_
  refine reg_quiet rfl (load_box tab_ok rfl rfl rfl rfl) ?_
  refine reg_quiet rfl (conv_int (m := o.sector) tab_ok rfl rfl rfl (wrap_i64 (by omega) (by omega))) ?_
  refine reg_quiet rfl (step_C tab_ok (fun K hk => hk)) ?_
  refine reg_quiet rfl (rem_to tab_ok rfl rfl (by omega) hs) ?_
  refine reg_quiet rfl (step_C tab_ok (fun K hk => hk)) ?_
  refine reg_nil ?_
  refine seq_n ?_
  refine wc_seq ?_
  refine wc_region ?_
  refine reg_new (step_C tab_ok (fun K hk => hk)) rfl ?_
  refine reg_nil ?_
  refine seq_n ?_
  refine wc_seq ?_
  refine wc_region ?_
  refine reg_quiet rfl (step_C tab_ok (fun K hk => hk)) ?_
  refine reg_nil ?_
  refine seq_n ?_
  refine wc_seq ?_
  refine wc_seq ?_
  refine wc_region ?_
  refine reg_quiet rfl (step_C tab_ok (fun K hk => hk)) ?_
  refine reg_quiet rfl (load_box tab_ok rfl rfl rfl rfl) ?_
  refine reg_quiet rfl (rem_to tab_ok rfl rfl (by decide) hk) ?_
  refine reg_nil ?_
  refine seq_n ?_
  refine wc_block ?_
  refine wc_seq ?_
  refine wc_region ?_
  refine reg_quiet rfl (step_C tab_ok (fun K hk => hk)) ?_
  refine reg_quiet rfl (step_C tab_ok (fun K hk => hk)) ?_
  refine reg_nil ?_
  refine seq_n ?_
  refine wc_true rfl rfl ?_
  refine wc_region ?_
  refine reg_quiet rfl (load_box tab_ok rfl rfl rfl rfl) ?_
  refine reg_quiet rfl (step_C tab_ok (fun K hk => hk)) ?_
  refine reg_quiet rfl (step_C tab_ok (fun K hk => hk)) ?_
  refine reg_quiet rfl (load_box tab_ok rfl rfl rfl rfl) ?_
  refine reg_new2 (call_h [(0, some 0)] hC rfl rfl rfl (arg_e (arg_e (arg_give rfl rfl arg_nil))) ⟨⟨rfl, rfl, _, _, rfl, rfl, .refl _⟩, trivial⟩ rfl rfl (.inl rfl) rfl rfl) rfl ?_
  refine reg_quiet rfl (step_C tab_ok (fun K hk => hk)) ?_
  refine reg_quiet rfl (step_C tab_ok (fun K hk => hk)) ?_
  refine reg_quiet rfl (step_C tab_ok (fun K hk => hk)) ?_
  refine reg_store (store_row tab_ok rfl rfl rfl ⟨_, ⟨rfl, rfl, rfl⟩, rfl⟩ rfl) ?_
  refine reg_quiet rfl (step_C tab_ok (fun K hk => hk)) ?_
  refine reg_nil ?_
  refine blk_n ?_
  refine seq_n ?_
  refine wc_seq ?_
  refine wc_seq ?_
  refine wc_region ?_
  refine reg_quiet rfl (step_C tab_ok (fun K hk => hk)) ?_
  refine reg_quiet rfl (step_C tab_ok (fun K hk => hk)) ?_
  refine reg_nil ?_
  refine seq_n ?_
  refine wc_false rfl rfl ?_
  refine wc_skip ?_
  refine seq_n ?_
  refine wc_seq ?_
  refine wc_region ?_
  refine reg_quiet rfl (load_box tab_ok rfl rfl rfl rfl) ?_
  refine reg_store (store_row tab_ok rfl rfl rfl ⟨_, ⟨rfl, rfl, rfl⟩, rfl⟩ rfl) ?_
  refine reg_quiet rfl (step_C tab_ok (fun K hk => hk)) ?_
  refine reg_nil ?_
  refine seq_n ?_
  refine wc_ret ?_
  exact ⟨trivial, _, rfl, [], .of rfl rfl rfl rfl rfl ⟨⟨_, rfl, AVLe.of_eq rfl⟩, rfl, trivial⟩ ⟨⟨rfl, rfl, _, rfl, .refl _⟩, trivial⟩⟩
theorem doO_wx (o : Opr) (l : List Int) (ex : Bool) (ho : OpOk o) (d d2 : Dk) (N s : Nat) (hN : 1 ≤ N ∧ N ≤ 10922) (hs : o.sector.tmod (N : Int) = s) (hk : o.kind.tmod 3 = 0) 
    (hC : FnIs Try.prog 23 [.d (encDk d), .d (i6 s), .own 0 0 l.length 1 none] [(0, rowU ex l)] (tup2 (encDk d2) (i6 3)) [(0, rowU ex l)]) : FnIs Try.prog 13 [yO o l.length, .d (encDk d), .d (i6 N)] [(0, rowU ex l)] (tup2 (encDk d) (i6 3)) [(0, rowU ex l)] := by
  obtain ⟨⟨_, _⟩, ⟨_, _⟩, ⟨_, _⟩⟩ := ho
  refine fnIs_of tab_ok Try.func13 rfl rfl rfl ?_
  refine wc_seq ?_
  refine wc_region ?_
  refine reg_new (step_C tab_ok (fun K hk => hk)) rfl ?_
  refine reg_new (step_C tab_ok (fun K hk => hk)) rfl ?_
  refine reg_new (step_C tab_ok (fun K hk => hk)) rfl ?_
  refine reg_quiet rfl (step_C tab_ok (fun K hk => hk)) ?_
  refine reg_nil ?_
  refine seq_n ?_
  refine wc_seq ?_
  refine wc_region ?_
  refine reg_quiet rfl (step_C tab_ok (fun K hk => hk)) ?_
  refine reg_quiet rfl (load_box tab_ok rfl rfl rfl rfl) ?_
  refine reg_quiet rfl (conv_int (m := o.sector) tab_ok rfl rfl rfl (wrap_i64 (by omega) (by omega))) ?_
  refine reg_quiet rfl (step_C tab_ok (fun K hk => hk)) ?_
  refine reg_quiet rfl (rem_to tab_ok rfl rfl (by omega) hs) ?_
  refine reg_quiet rfl (step_C tab_ok (fun K hk => hk)) ?_
  refine reg_nil ?_
  refine seq_n ?_
  refine wc_seq ?_
  refine wc_region ?_
  refine reg_new (step_C tab_ok (fun K hk => hk)) rfl ?_
  refine reg_nil ?_
  refine seq_n ?_
  refine wc_seq ?_
  refine wc_region ?_
  refine reg_quiet rfl (step_C tab_ok (fun K hk => hk)) ?_
  refine reg_nil ?_
  refine seq_n ?_
  refine wc_seq ?_
  refine wc_seq ?_
  refine wc_region ?_
  refine reg_quiet rfl (step_C tab_ok (fun K hk => hk)) ?_
  refine reg_quiet rfl (load_box tab_ok rfl rfl rfl rfl) ?_
  refine reg_quiet rfl (rem_to tab_ok rfl rfl (by decide) hk) ?_
  refine reg_nil ?_
  refine seq_n ?_
  refine wc_block ?_
  refine wc_seq ?_
  refine wc_region ?_
  refine reg_quiet rfl (step_C tab_ok (fun K hk => hk)) ?_
  refine reg_quiet rfl (step_C tab_ok (fun K hk => hk)) ?_
  refine reg_nil ?_
  refine seq_n ?_
  refine wc_true rfl rfl ?_
  refine wc_region ?_
  refine reg_quiet rfl (load_box tab_ok rfl rfl rfl rfl) ?_
  refine reg_quiet rfl (step_C tab_ok (fun K hk => hk)) ?_
  refine reg_quiet rfl (step_C tab_ok (fun K hk => hk)) ?_
  refine reg_quiet rfl (load_box tab_ok rfl rfl rfl rfl) ?_
  refine reg_new2 (call_h [(0, some 0)] hC rfl rfl rfl (arg_e (arg_e (arg_give rfl rfl arg_nil))) ⟨⟨rfl, rfl, _, _, rfl, rfl, .refl _⟩, trivial⟩ rfl rfl (.inl rfl) rfl rfl) rfl ?_
  refine reg_quiet rfl (step_C tab_ok (fun K hk => hk)) ?_
  refine reg_quiet rfl (step_C tab_ok (fun K hk => hk)) ?_
  refine reg_quiet rfl (step_C tab_ok (fun K hk => hk)) ?_
  refine reg_store (store_row tab_ok rfl rfl rfl ⟨_, ⟨rfl, rfl, rfl⟩, rfl⟩ rfl) ?_
  refine reg_quiet rfl (step_C tab_ok (fun K hk => hk)) ?_
  refine reg_nil ?_
  refine blk_n ?_
  refine seq_n ?_
  refine wc_seq ?_
  refine wc_seq ?_
  refine wc_region ?_
  refine reg_quiet rfl (step_C tab_ok (fun K hk => hk)) ?_
  refine reg_quiet rfl (step_C tab_ok (fun K hk => hk)) ?_
  refine reg_nil ?_
  refine seq_n ?_
  refine wc_true rfl rfl ?_
  refine wc_seq ?_
  refine wc_region ?_
  refine reg_quiet rfl (load_box tab_ok rfl rfl rfl rfl) ?_
  refine reg_quiet rfl (step_C tab_ok (fun K hk => hk)) ?_
  refine reg_store (store_row tab_ok rfl rfl rfl ⟨_, ⟨rfl, rfl, rfl⟩, rfl⟩ rfl) ?_
  refine reg_quiet rfl (step_C tab_ok (fun K hk => hk)) ?_
  refine reg_nil ?_
  refine seq_n ?_
  refine wc_ret ?_
  refine seq_r ?_
  exact ⟨trivial, _, rfl, [], .of rfl rfl rfl rfl rfl ⟨⟨_, rfl, AVLe.of_eq rfl⟩, rfl, trivial⟩ ⟨⟨rfl, rfl, _, rfl, .refl _⟩, trivial⟩⟩
theorem doO_e (o : Opr) (l : List Int) (ex : Bool) (ho : OpOk o) (d d2 : Dk) (N s : Nat) (hN : 1 ≤ N ∧ N ≤ 10922) (hs : o.sector.tmod (N : Int) = s) (hk : o.kind.tmod 3 = 1) 
    (hC : FnIs Try.prog 22 [.d (encDk d), .d (i6 s)] [] (tup2 (encDk d2) (i6 0)) []) : FnIs Try.prog 13 [yO o l.length, .d (encDk d), .d (i6 N)] [(0, rowU ex l)] (tup2 (encDk d2) (i6 0)) [(0, rowU ex l)] := by
  obtain ⟨⟨_, _⟩, ⟨_, _⟩, ⟨_, _⟩⟩ := ho
  refine fnIs_of tab_ok Try.func13 rfl rfl rfl ?_
  refine wc_seq ?_
  refine wc_region ?_
  refine reg_new (step_C tab_ok (fun K hk => hk)) rfl ?_
  refine reg_new (step_C tab_ok (fun K hk => hk)) rfl ?_
  refine reg_new (step_C tab_ok (fun K hk => hk)) rfl ?_
  refine reg_quiet rfl (step_C tab_ok (fun K hk => hk)) ?_
  refine reg_nil ?_
  refine seq_n ?_
  refine wc_seq ?_
  refine wc_region ?_
  refine reg_quiet rfl (step_C tab_ok (fun K hk => hk)) ?_
  refine reg_quiet rfl (load_box tab_ok rfl rfl rfl rfl) ?_
  refine reg_quiet rfl (conv_int (m := o.sector) tab_ok rfl rfl rfl (wrap_i64 (by omega) (by omega))) ?_
  refine reg_quiet rfl (step_C tab_ok (fun K hk => hk)) ?_
  refine reg_quiet rfl (rem_to tab_ok rfl rfl (by omega) hs) ?_
  refine reg_quiet rfl (step_C tab_ok (fun K hk => hk)) ?_
  refine reg_nil ?_
  refine seq_n ?_
  refine wc_seq ?_
  refine wc_region ?_
  refine reg_new (step_C tab_ok (fun K hk => hk)) rfl ?_
  refine reg_nil ?_
  refine seq_n ?_
  refine wc_seq ?_
  refine wc_region ?_
  refine reg_quiet rfl (step_C tab_ok (fun K hk => hk)) ?_
  refine reg_nil ?_
  refine seq_n ?_
  refine wc_seq ?_
  refine wc_seq ?_
  refine wc_region ?_
  refine reg_quiet rfl (step_C tab_ok (fun K hk => hk)) ?_
  refine reg_quiet rfl (load_box tab_ok rfl rfl rfl rfl) ?_
  refine reg_quiet rfl (rem_to tab_ok rfl rfl (by decide) hk) ?_
  refine reg_nil ?_
  refine seq_n ?_
  refine wc_block ?_
  refine wc_seq ?_
  refine wc_region ?_
  refine reg_quiet rfl (step_C tab_ok (fun K hk => hk)) ?_
  refine reg_quiet rfl (step_C tab_ok (fun K hk => hk)) ?_
  refine reg_nil ?_
  refine seq_n ?_
  refine wc_false rfl rfl ?_
  refine wc_seq ?_
  refine wc_region ?_
  refine reg_quiet rfl (step_C tab_ok (fun K hk => hk)) ?_
  refine reg_quiet rfl (step_C tab_ok (fun K hk => hk)) ?_
  refine reg_nil ?_
  refine seq_n ?_
  refine wc_true rfl rfl ?_
  refine wc_region ?_
  refine reg_quiet rfl (load_box tab_ok rfl rfl rfl rfl) ?_
  refine reg_quiet rfl (step_C tab_ok (fun K hk => hk)) ?_
  refine reg_quiet rfl (call_r hC rfl rfl (arg_e (arg_e arg_nil)) (.inl rfl) (fun _ => rfl)) ?_
  refine reg_quiet rfl (step_C tab_ok (fun K hk => hk)) ?_
  refine reg_quiet rfl (step_C tab_ok (fun K hk => hk)) ?_
  refine reg_quiet rfl (step_C tab_ok (fun K hk => hk)) ?_
  refine reg_store (store_row tab_ok rfl rfl rfl ⟨_, ⟨rfl, rfl, rfl⟩, rfl⟩ rfl) ?_
  refine reg_quiet rfl (step_C tab_ok (fun K hk => hk)) ?_
  refine reg_nil ?_
  refine blk_n ?_
  refine seq_n ?_
  refine wc_seq ?_
  refine wc_seq ?_
  refine wc_region ?_
  refine reg_quiet rfl (step_C tab_ok (fun K hk => hk)) ?_
  refine reg_quiet rfl (step_C tab_ok (fun K hk => hk)) ?_
  refine reg_nil ?_
  refine seq_n ?_
  refine wc_false rfl rfl ?_
  refine wc_skip ?_
  refine seq_n ?_
  refine wc_seq ?_
  refine wc_region ?_
  refine reg_quiet rfl (load_box tab_ok rfl rfl rfl rfl) ?_
  refine reg_store (store_row tab_ok rfl rfl rfl ⟨_, ⟨rfl, rfl, rfl⟩, rfl⟩ rfl) ?_
  refine reg_quiet rfl (step_C tab_ok (fun K hk => hk)) ?_
  refine reg_nil ?_
  refine seq_n ?_
  refine wc_ret ?_
  exact ⟨trivial, _, rfl, [], .of rfl rfl rfl rfl rfl ⟨⟨_, rfl, AVLe.of_eq rfl⟩, rfl, trivial⟩ ⟨⟨rfl, rfl, _, rfl, .refl _⟩, trivial⟩⟩
theorem doO_r (o : Opr) (l : List Int) (ex : Bool) (ho : OpOk o) (d d2 : Dk) (N s : Nat) (hN : 1 ≤ N ∧ N ≤ 10922) (hs : o.sector.tmod (N : Int) = s) (hk : o.kind.tmod 3 = 2) (k : Nat) (hb : o.back.tmod 8 = k) (hk8 : k < 8)
    (hC : FnIs Try.prog 26 [.d (encDk d), .d (i6 s), .d (i6 k)] [] (tup2 (encDk d2) (i6 0)) []) : FnIs Try.prog 13 [yO o l.length, .d (encDk d), .d (i6 N)] [(0, rowU ex l)] (tup2 (encDk d2) (i6 0)) [(0, rowU ex l)] := by
  obtain ⟨⟨_, _⟩, ⟨_, _⟩, ⟨_, _⟩⟩ := ho
  refine fnIs_of tab_ok Try.func13 rfl rfl rfl ?_
  refine wc_seq ?_
  refine wc_region ?_
  refine reg_new (step_C tab_ok (fun K hk => hk)) rfl ?_
  refine reg_new (step_C tab_ok (fun K hk => hk)) rfl ?_
  refine reg_new (step_C tab_ok (fun K hk => hk)) rfl ?_
  refine reg_quiet rfl (step_C tab_ok (fun K hk => hk)) ?_
  refine reg_nil ?_
  refine seq_n ?_
  refine wc_seq ?_
  refine wc_region ?_
  refine reg_quiet rfl (step_C tab_ok (fun K hk => hk)) ?_
  refine reg_quiet rfl (load_box tab_ok rfl rfl rfl rfl) ?_
  refine reg_quiet rfl (conv_int (m := o.sector) tab_ok rfl rfl rfl (wrap_i64 (by omega) (by omega))) ?_
  refine reg_quiet rfl (step_C tab_ok (fun K hk => hk)) ?_
  refine reg_quiet rfl (rem_to tab_ok rfl rfl (by omega) hs) ?_
  refine reg_quiet rfl (step_C tab_ok (fun K hk => hk)) ?_
  refine reg_nil ?_
  refine seq_n ?_
  refine wc_seq ?_
  refine wc_region ?_
  refine reg_new (step_C tab_ok (fun K hk => hk)) rfl ?_
  refine reg_nil ?_
  refine seq_n ?_
  refine wc_seq ?_
  refine wc_region ?_
  refine reg_quiet rfl (step_C tab_ok (fun K hk => hk)) ?_
  refine reg_nil ?_
  refine seq_n ?_
  refine wc_seq ?_
  refine wc_seq ?_
  refine wc_region ?_
  refine reg_quiet rfl (step_C tab_ok (fun K hk => hk)) ?_
  refine reg_quiet rfl (load_box tab_ok rfl rfl rfl rfl) ?_
  refine reg_quiet rfl (rem_to tab_ok rfl rfl (by decide) hk) ?_
  refine reg_nil ?_
  refine seq_n ?_
  refine wc_block ?_
  refine wc_seq ?_
  refine wc_region ?_
  refine reg_quiet rfl (step_C tab_ok (fun K hk => hk)) ?_
  refine reg_quiet rfl (step_C tab_ok (fun K hk => hk)) ?_
  refine reg_nil ?_
  refine seq_n ?_
  refine wc_false rfl rfl ?_
  refine wc_seq ?_
  refine wc_region ?_
  refine reg_quiet rfl (step_C tab_ok (fun K hk => hk)) ?_
  refine reg_quiet rfl (step_C tab_ok (fun K hk => hk)) ?_
  refine reg_nil ?_
  refine seq_n ?_
  refine wc_false rfl rfl ?_
  refine wc_region ?_
  refine reg_quiet rfl (load_box tab_ok rfl rfl rfl rfl) ?_
  refine reg_quiet rfl (step_C tab_ok (fun K hk => hk)) ?_
  refine reg_quiet rfl (step_C tab_ok (fun K hk => hk)) ?_
  refine reg_quiet rfl (load_box tab_ok rfl rfl rfl rfl) ?_
  refine reg_quiet rfl (rem_to tab_ok rfl rfl (by decide) hb) ?_
  refine reg_quiet rfl (conv_int (m := (k : Int)) tab_ok rfl rfl rfl (wrap_i64 (by omega) (by omega))) ?_
  refine reg_quiet rfl (call_r hC rfl rfl (arg_e (arg_e (arg_e arg_nil))) (.inl rfl) (fun _ => rfl)) ?_
  refine reg_quiet rfl (step_C tab_ok (fun K hk => hk)) ?_
  refine reg_quiet rfl (step_C tab_ok (fun K hk => hk)) ?_
  refine reg_quiet rfl (step_C tab_ok (fun K hk => hk)) ?_
  refine reg_store (store_row tab_ok rfl rfl rfl ⟨_, ⟨rfl, rfl, rfl⟩, rfl⟩ rfl) ?_
  refine reg_quiet rfl (step_C tab_ok (fun K hk => hk)) ?_
  refine reg_nil ?_
  refine blk_n ?_
  refine seq_n ?_
  refine wc_seq ?_
  refine wc_seq ?_
  refine wc_region ?_
  refine reg_quiet rfl (step_C tab_ok (fun K hk => hk)) ?_
  refine reg_quiet rfl (step_C tab_ok (fun K hk => hk)) ?_
  refine reg_nil ?_
  refine seq_n ?_
  refine wc_false rfl rfl ?_
  refine wc_skip ?_
  refine seq_n ?_
  refine wc_seq ?_
  refine wc_region ?_
  refine reg_quiet rfl (load_box tab_ok rfl rfl rfl rfl) ?_
  refine reg_store (store_row tab_ok rfl rfl rfl ⟨_, ⟨rfl, rfl, rfl⟩, rfl⟩ rfl) ?_
  refine reg_quiet rfl (step_C tab_ok (fun K hk => hk)) ?_
  refine reg_nil ?_
  refine seq_n ?_
  refine wc_ret ?_
  exact ⟨trivial, _, rfl, [], .of rfl rfl rfl rfl rfl ⟨⟨_, rfl, AVLe.of_eq rfl⟩, rfl, trivial⟩ ⟨⟨rfl, rfl, _, rfl, .refl _⟩, trivial⟩⟩
theorem doO_rx (o : Opr) (l : List Int) (ex : Bool) (ho : OpOk o) (d d2 : Dk) (N s : Nat) (hN : 1 ≤ N ∧ N ≤ 10922) (hs : o.sector.tmod (N : Int) = s) (hk : o.kind.tmod 3 = 2) (k : Nat) (hb : o.back.tmod 8 = k) (hk8 : k < 8)
    (hC : FnIs Try.prog 26 [.d (encDk d), .d (i6 s), .d (i6 k)] [] (tup2 (encDk d2) (i6 11)) []) : FnIs Try.prog 13 [yO o l.length, .d (encDk d), .d (i6 N)] [(0, rowU ex l)] (tup2 (encDk d) (i6 11)) [(0, rowU ex l)] := by
  obtain ⟨⟨_, _⟩, ⟨_, _⟩, ⟨_, _⟩⟩ := ho
  refine fnIs_of tab_ok Try.func13 rfl rfl rfl ?_
  refine wc_seq ?_
  refine wc_region ?_
  refine reg_new (step_C tab_ok (fun K hk => hk)) rfl ?_
  refine reg_new (step_C tab_ok (fun K hk => hk)) rfl ?_
  refine reg_new (step_C tab_ok (fun K hk => hk)) rfl ?_
  refine reg_quiet rfl (step_C tab_ok (fun K hk => hk)) ?_
  refine reg_nil ?_
  refine seq_n ?_
  refine wc_seq ?_
  refine wc_region ?_
  refine reg_quiet rfl (step_C tab_ok (fun K hk => hk)) ?_
  refine reg_quiet rfl (load_box tab_ok rfl rfl rfl rfl) ?_
  refine reg_quiet rfl (conv_int (m := o.sector) tab_ok rfl rfl rfl (wrap_i64 (by omega) (by omega))) ?_
  refine reg_quiet rfl (step_C tab_ok (fun K hk => hk)) ?_
  refine reg_quiet rfl (rem_to tab_ok rfl rfl (by omega) hs) ?_
  refine reg_quiet rfl (step_C tab_ok (fun K hk => hk)) ?_
  refine reg_nil ?_
  refine seq_n ?_
  refine wc_seq ?_
  refine wc_region ?_
  refine reg_new (step_C tab_ok (fun K hk => hk)) rfl ?_
  refine reg_nil ?_
  refine seq_n ?_
  refine wc_seq ?_
  refine wc_region ?_
  refine reg_quiet rfl (step_C tab_ok (fun K hk => hk)) ?_
  refine reg_nil ?_
  refine seq_n ?_
  refine wc_seq ?_
  refine wc_seq ?_
  refine wc_region ?_
  refine reg_quiet rfl (step_C tab_ok (fun K hk => hk)) ?_
  refine reg_quiet rfl (load_box tab_ok rfl rfl rfl rfl) ?_
  refine reg_quiet rfl (rem_to tab_ok rfl rfl (by decide) hk) ?_
  refine reg_nil ?_
  refine seq_n ?_
  refine wc_block ?_
  refine wc_seq ?_
  refine wc_region ?_
  refine reg_quiet rfl (step_C tab_ok (fun K hk => hk)) ?_
  refine reg_quiet rfl (step_C tab_ok (fun K hk => hk)) ?_
  refine reg_nil ?_
  refine seq_n ?_
  refine wc_false rfl rfl ?_
  refine wc_seq ?_
  refine wc_region ?_
  refine reg_quiet rfl (step_C tab_ok (fun K hk => hk)) ?_
  refine reg_quiet rfl (step_C tab_ok (fun K hk => hk)) ?_
  refine reg_nil ?_
  refine seq_n ?_
  refine wc_false rfl rfl ?_
  refine wc_region ?_
  refine reg_quiet rfl (load_box tab_ok rfl rfl rfl rfl) ?_
  refine reg_quiet rfl (step_C tab_ok (fun K hk => hk)) ?_
  refine reg_quiet rfl (step_C tab_ok (fun K hk => hk)) ?_
  refine reg_quiet rfl (load_box tab_ok rfl rfl rfl rfl) ?_
  refine reg_quiet rfl (rem_to tab_ok rfl rfl (by decide) hb) ?_
  refine reg_quiet rfl (conv_int (m := (k : Int)) tab_ok rfl rfl rfl (wrap_i64 (by omega) (by omega))) ?_
  refine reg_quiet rfl (call_r hC rfl rfl (arg_e (arg_e (arg_e arg_nil))) (.inl rfl) (fun _ => rfl)) ?_
  refine reg_quiet rfl (step_C tab_ok (fun K hk => hk)) ?_
  refine reg_quiet rfl (step_C tab_ok (fun K hk => hk)) ?_
  refine reg_quiet rfl (step_C tab_ok (fun K hk => hk)) ?_
  refine reg_store (store_row tab_ok rfl rfl rfl ⟨_, ⟨rfl, rfl, rfl⟩, rfl⟩ rfl) ?_
  refine reg_quiet rfl (step_C tab_ok (fun K hk => hk)) ?_
  refine reg_nil ?_
  refine blk_n ?_
  refine seq_n ?_
  refine wc_seq ?_
  refine wc_seq ?_
  refine wc_region ?_
  refine reg_quiet rfl (step_C tab_ok (fun K hk => hk)) ?_
  refine reg_quiet rfl (step_C tab_ok (fun K hk => hk)) ?_
  refine reg_nil ?_
  refine seq_n ?_
  refine wc_true rfl rfl ?_
  refine wc_seq ?_
  refine wc_region ?_
  refine reg_quiet rfl (load_box tab_ok rfl rfl rfl rfl) ?_
  refine reg_quiet rfl (step_C tab_ok (fun K hk => hk)) ?_
  refine reg_store (store_row tab_ok rfl rfl rfl ⟨_, ⟨rfl, rfl, rfl⟩, rfl⟩ rfl) ?_
  refine reg_quiet rfl (step_C tab_ok (fun K hk => hk)) ?_
  refine reg_nil ?_
  refine seq_n ?_
  refine wc_ret ?_
  refine seq_r ?_
  exact ⟨trivial, _, rfl, [], .of rfl rfl rfl rfl rfl ⟨⟨_, rfl, AVLe.of_eq rfl⟩, rfl, trivial⟩ ⟨⟨rfl, rfl, _, rfl, .refl _⟩, trivial⟩⟩
theorem refO_w (o : Opr) (l : List Int) (ex : Bool) (hp : 0 < l.length) (ho : OpOk o) (L L2 : List Vs) (s : Nat) (hN : 1 ≤ L.length ∧ L.length ≤ 10922) (hs : o.sector.tmod (L.length : Int) = s) (hk : o.kind.tmod 3 = 0) (hl : decide (256 < (l.length : Int)) = false)
    (hC : FnIs Try.prog 32 [.d (encRD L), .d (i6 s), .d (encV ⟨true, l⟩)] [] (.d (encRD L2)) []) : FnIs Try.prog 14 [yO o l.length, .d (encRD L)] [(0, rowU ex l)] (tup2 (encRD L2) (i6 0)) [(0, rowU ex l)] := by
  obtain ⟨⟨_, _⟩, ⟨_, _⟩, ⟨_, _⟩⟩ := ho
  refine fnIs_of tab_ok Try.func14 rfl rfl rfl ?_
  refine wc_seq ?_
  refine wc_region ?_
  refine reg_new (step_C tab_ok (fun K hk => hk)) rfl ?_
  refine reg_new (step_C tab_ok (fun K hk => hk)) rfl ?_
  refine reg_new (step_C tab_ok (fun K hk => hk)) rfl ?_
  refine reg_quiet rfl (step_C tab_ok (fun K hk => hk)) ?_
  refine reg_nil ?_
  refine seq_n ?_
  refine wc_seq ?_
  refine wc_region ?_
  refine reg_quiet rfl (step_C tab_ok (fun K hk => hk)) ?_
  refine reg_quiet rfl (load_box tab_ok rfl rfl rfl rfl) ?_
  refine reg_quiet rfl (conv_int (m := o.sector) tab_ok rfl rfl rfl (wrap_i64 (by omega) (by omega))) ?_
  refine reg_quiet rfl (step_C tab_ok (fun K hk => hk)) ?_
  refine reg_quiet rfl (load_box tab_ok rfl rfl ⟨_, rfl, rfl⟩ rfl) ?_
  refine reg_quiet rfl (len_arr tab_ok rfl rfl) ?_
  refine reg_quiet rfl (rem_to tab_ok rfl rfl (by omega) hs) ?_
  refine reg_quiet rfl (step_C tab_ok (fun K hk => hk)) ?_
  refine reg_nil ?_
  refine seq_n ?_
  refine wc_seq ?_
  refine wc_seq ?_
  refine wc_region ?_
  refine reg_quiet rfl (step_C tab_ok (fun K hk => hk)) ?_
  refine reg_quiet rfl (load_box tab_ok rfl rfl rfl rfl) ?_
  refine reg_quiet rfl (rem_to tab_ok rfl rfl (by decide) hk) ?_
  refine reg_nil ?_
  refine seq_n ?_
  refine wc_block ?_
  refine wc_seq ?_
  refine wc_region ?_
  refine reg_quiet rfl (step_C tab_ok (fun K hk => hk)) ?_
  refine reg_quiet rfl (step_C tab_ok (fun K hk => hk)) ?_
  refine reg_nil ?_
  refine seq_n ?_
  refine wc_true rfl rfl ?_
  refine wc_seq ?_
  refine wc_seq ?_
  refine wc_region ?_
  refine reg_quiet rfl (step_C tab_ok (fun K hk => hk)) ?_
  refine reg_quiet rfl (load_box tab_ok rfl rfl rfl rfl) ?_
  refine reg_quiet rfl (len_own tab_ok rfl rfl) ?_
  refine reg_quiet rfl (step_C tab_ok (fun K hk => hk)) ?_
  refine reg_nil ?_
  refine seq_n ?_
  refine wc_false rfl (by assumption) ?_
  refine wc_skip ?_
  refine seq_n ?_
  refine wc_seq ?_
  refine wc_region ?_
  refine reg_quiet rfl (load_box tab_ok rfl rfl rfl rfl) ?_
  refine reg_quiet rfl (step_C tab_ok (fun K hk => hk)) ?_
  refine reg_quiet rfl (step_C tab_ok (fun K hk => hk)) ?_
  refine reg_quiet rfl (load_box tab_ok rfl rfl rfl rfl) ?_
  refine reg_quiet rfl (conv_own tab_ok rfl rfl rfl rfl rfl rfl hp) ?_
  refine reg_quiet rfl (build_struct tab_ok rfl rfl rfl rfl) ?_
  refine reg_quiet rfl (call_r hC rfl rfl (arg_e (arg_e (arg_e arg_nil))) (.inl rfl) (fun _ => rfl)) ?_
  refine reg_store (store_row tab_ok rfl rfl rfl ⟨_, ⟨rfl, rfl, rfl⟩, rfl⟩ rfl) ?_
  refine reg_quiet rfl (step_C tab_ok (fun K hk => hk)) ?_
  refine reg_nil ?_
  refine seq_n ?_
  refine wc_ret ?_
  refine blk_r ?_
  refine seq_r ?_
  exact ⟨trivial, _, rfl, [], .of rfl rfl rfl rfl rfl ⟨⟨_, rfl, AVLe.of_eq rfl⟩, rfl, trivial⟩ ⟨⟨rfl, rfl, _, rfl, .refl _⟩, trivial⟩⟩
theorem refO_wx (o : Opr) (l : List Int) (ex : Bool) (hp : 0 < l.length) (ho : OpOk o) (L L2 : List Vs) (s : Nat) (hN : 1 ≤ L.length ∧ L.length ≤ 10922) (hs : o.sector.tmod (L.length : Int) = s) (hk : o.kind.tmod 3 = 0) (hl : decide (256 < (l.length : Int)) = true)
     : FnIs Try.prog 14 [yO o l.length, .d (encRD L)] [(0, rowU ex l)] (tup2 (encRD L) (i6 3)) [(0, rowU ex l)] := by
  obtain ⟨⟨_, _⟩, ⟨_, _⟩, ⟨_, _⟩⟩ := ho
  refine fnIs_of tab_ok Try.func14 rfl rfl rfl ?_
  refine wc_seq ?_
  refine wc_region ?_
  refine reg_new (step_C tab_ok (fun K hk => hk)) rfl ?_
  refine reg_new (step_C tab_ok (fun K hk => hk)) rfl ?_
  refine reg_new (step_C tab_ok (fun K hk => hk)) rfl ?_
  refine reg_quiet rfl (step_C tab_ok (fun K hk => hk)) ?_
  refine reg_nil ?_
  refine seq_n ?_
  refine wc_seq ?_
  refine wc_region ?_
  refine reg_quiet rfl (step_C tab_ok (fun K hk => hk)) ?_
  refine reg_quiet rfl (load_box tab_ok rfl rfl rfl rfl) ?_
  refine reg_quiet rfl (conv_int (m := o.sector) tab_ok rfl rfl rfl (wrap_i64 (by omega) (by omega))) ?_
  refine reg_quiet rfl (step_C tab_ok (fun K hk => hk)) ?_
  refine reg_quiet rfl (load_box tab_ok rfl rfl ⟨_, rfl, rfl⟩ rfl) ?_
  refine reg_quiet rfl (len_arr tab_ok rfl rfl) ?_
  refine reg_quiet rfl (rem_to tab_ok rfl rfl (by omega) hs) ?_
  refine reg_quiet rfl (step_C tab_ok (fun K hk => hk)) ?_
  refine reg_nil ?_
  refine seq_n ?_
  refine wc_seq ?_
  refine wc_seq ?_
  refine wc_region ?_
  refine reg_quiet rfl (step_C tab_ok (fun K hk => hk)) ?_
  refine reg_quiet rfl (load_box tab_ok rfl rfl rfl rfl) ?_
  refine reg_quiet rfl (rem_to tab_ok rfl rfl (by decide) hk) ?_
  refine reg_nil ?_
  refine seq_n ?_
  refine wc_block ?_
  refine wc_seq ?_
  refine wc_region ?_
  refine reg_quiet rfl (step_C tab_ok (fun K hk => hk)) ?_
  refine reg_quiet rfl (step_C tab_ok (fun K hk => hk)) ?_
  refine reg_nil ?_
  refine seq_n ?_
  refine wc_true rfl rfl ?_
  refine wc_seq ?_
  refine wc_seq ?_
  refine wc_region ?_
  refine reg_quiet rfl (step_C tab_ok (fun K hk => hk)) ?_
  refine reg_quiet rfl (load_box tab_ok rfl rfl rfl rfl) ?_
  refine reg_quiet rfl (len_own tab_ok rfl rfl) ?_
  refine reg_quiet rfl (step_C tab_ok (fun K hk => hk)) ?_
  refine reg_nil ?_
  refine seq_n ?_
  refine wc_true rfl (by assumption) ?_
  refine wc_seq ?_
  refine wc_region ?_
  refine reg_quiet rfl (load_box tab_ok rfl rfl rfl rfl) ?_
  refine reg_store (store_row tab_ok rfl rfl rfl ⟨_, ⟨rfl, rfl, rfl⟩, rfl⟩ rfl) ?_
  refine reg_quiet rfl (step_C tab_ok (fun K hk => hk)) ?_
  refine reg_nil ?_
  refine seq_n ?_
  refine wc_ret ?_
  refine seq_r ?_
  refine blk_r ?_
  refine seq_r ?_
  exact ⟨trivial, _, rfl, [], .of rfl rfl rfl rfl rfl ⟨⟨_, rfl, AVLe.of_eq rfl⟩, rfl, trivial⟩ ⟨⟨rfl, rfl, _, rfl, .refl _⟩, trivial⟩⟩
theorem refO_e (o : Opr) (l : List Int) (ex : Bool) (hp : 0 < l.length) (ho : OpOk o) (L L2 : List Vs) (s : Nat) (hN : 1 ≤ L.length ∧ L.length ≤ 10922) (hs : o.sector.tmod (L.length : Int) = s) (hk : o.kind.tmod 3 = 1) 
    (hC : FnIs Try.prog 32 [.d (encRD L), .d (i6 s), .d (encV noV)] [] (.d (encRD L2)) []) : FnIs Try.prog 14 [yO o l.length, .d (encRD L)] [(0, rowU ex l)] (tup2 (encRD L2) (i6 0)) [(0, rowU ex l)] := by
  obtain ⟨⟨_, _⟩, ⟨_, _⟩, ⟨_, _⟩⟩ := ho
  refine fnIs_of tab_ok Try.func14 rfl rfl rfl ?_
  refine wc_seq ?_
  refine wc_region ?_
  refine reg_new (step_C tab_ok (fun K hk => hk)) rfl ?_
  refine reg_new (step_C tab_ok (fun K hk => hk)) rfl ?_
  refine reg_new (step_C tab_ok (fun K hk => hk)) rfl ?_
  refine reg_quiet rfl (step_C tab_ok (fun K hk => hk)) ?_
  refine reg_nil ?_
  refine seq_n ?_
  refine wc_seq ?_
  refine wc_region ?_
  refine reg_quiet rfl (step_C tab_ok (fun K hk => hk)) ?_
  refine reg_quiet rfl (load_box tab_ok rfl rfl rfl rfl) ?_
  refine reg_quiet rfl (conv_int (m := o.sector) tab_ok rfl rfl rfl (wrap_i64 (by omega) (by omega))) ?_
  refine reg_quiet rfl (step_C tab_ok (fun K hk => hk)) ?_
  refine reg_quiet rfl (load_box tab_ok rfl rfl ⟨_, rfl, rfl⟩ rfl) ?_
  refine reg_quiet rfl (len_arr tab_ok rfl rfl) ?_
  refine reg_quiet rfl (rem_to tab_ok rfl rfl (by omega) hs) ?_
  refine reg_quiet rfl (step_C tab_ok (fun K hk => hk)) ?_
  refine reg_nil ?_
  refine seq_n ?_
  refine wc_seq ?_
  refine wc_seq ?_
  refine wc_region ?_
  refine reg_quiet rfl (step_C tab_ok (fun K hk => hk)) ?_
  refine reg_quiet rfl (load_box tab_ok rfl rfl rfl rfl) ?_
  refine reg_quiet rfl (rem_to tab_ok rfl rfl (by decide) hk) ?_
  refine reg_nil ?_
  refine seq_n ?_
  refine wc_block ?_
  refine wc_seq ?_
  refine wc_region ?_
  refine reg_quiet rfl (step_C tab_ok (fun K hk => hk)) ?_
  refine reg_quiet rfl (step_C tab_ok (fun K hk => hk)) ?_
  refine reg_nil ?_
  refine seq_n ?_
  refine wc_false rfl rfl ?_
  refine wc_seq ?_
  refine wc_region ?_
  refine reg_quiet rfl (step_C tab_ok (fun K hk => hk)) ?_
  refine reg_quiet rfl (step_C tab_ok (fun K hk => hk)) ?_
  refine reg_nil ?_
  refine seq_n ?_
  refine wc_true rfl rfl ?_
  refine wc_seq ?_
  refine wc_region ?_
  refine reg_quiet rfl (load_box tab_ok rfl rfl rfl rfl) ?_
  refine reg_quiet rfl (step_C tab_ok (fun K hk => hk)) ?_
  refine reg_quiet rfl (build_struct tab_ok rfl rfl rfl rfl) ?_
  refine reg_quiet rfl (call_r hC rfl rfl (arg_e (arg_e (arg_e arg_nil))) (.inl rfl) (fun _ => rfl)) ?_
  refine reg_store (store_row tab_ok rfl rfl rfl ⟨_, ⟨rfl, rfl, rfl⟩, rfl⟩ rfl) ?_
  refine reg_quiet rfl (step_C tab_ok (fun K hk => hk)) ?_
  refine reg_nil ?_
  refine seq_n ?_
  refine wc_ret ?_
  refine blk_r ?_
  refine seq_r ?_
  exact ⟨trivial, _, rfl, [], .of rfl rfl rfl rfl rfl ⟨⟨_, rfl, AVLe.of_eq rfl⟩, rfl, trivial⟩ ⟨⟨rfl, rfl, _, rfl, .refl _⟩, trivial⟩⟩
theorem refO_r (o : Opr) (l : List Int) (ex : Bool) (hp : 0 < l.length) (ho : OpOk o) (L L2 : List Vs) (s : Nat) (hN : 1 ≤ L.length ∧ L.length ≤ 10922) (hs : o.sector.tmod (L.length : Int) = s) (hk : o.kind.tmod 3 = 2) (k : Nat) (hb : o.back.tmod 8 = k) (hk8 : k < 8) (x : Ver) (hB : FnIs Try.prog 33 [.d (encRD L), .d (i6 s), .d (i6 k)] [] (tup2 (encV x) (bo true)) [])
    (hC : FnIs Try.prog 32 [.d (encRD L), .d (i6 s), .d (encV x)] [] (.d (encRD L2)) []) : FnIs Try.prog 14 [yO o l.length, .d (encRD L)] [(0, rowU ex l)] (tup2 (encRD L2) (i6 0)) [(0, rowU ex l)] := by
  obtain ⟨⟨_, _⟩, ⟨_, _⟩, ⟨_, _⟩⟩ := ho
  refine fnIs_of tab_ok Try.func14 rfl rfl rfl ?_
  refine wc_seq ?_
  refine wc_region ?_
  refine reg_new (step_C tab_ok (fun K hk => hk)) rfl ?_
  refine reg_new (step_C tab_ok (fun K hk => hk)) rfl ?_
  refine reg_new (step_C tab_ok (fun K hk => hk)) rfl ?_
  refine reg_quiet rfl (step_C tab_ok (fun K hk => hk)) ?_
  refine reg_nil ?_
  refine seq_n ?_
  refine wc_seq ?_
  refine wc_region ?_
  refine reg_quiet rfl (step_C tab_ok (fun K hk => hk)) ?_
  refine reg_quiet rfl (load_box tab_ok rfl rfl rfl rfl) ?_
  refine reg_quiet rfl (conv_int (m := o.sector) tab_ok rfl rfl rfl (wrap_i64 (by omega) (by omega))) ?_
  refine reg_quiet rfl (step_C tab_ok (fun K hk => hk)) ?_
  refine reg_quiet rfl (load_box tab_ok rfl rfl ⟨_, rfl, rfl⟩ rfl) ?_
  refine reg_quiet rfl (len_arr tab_ok rfl rfl) ?_
  refine reg_quiet rfl (rem_to tab_ok rfl rfl (by omega) hs) ?_
  refine reg_quiet rfl (step_C tab_ok (fun K hk => hk)) ?_
  refine reg_nil ?_
  refine seq_n ?_
  refine wc_seq ?_
  refine wc_seq ?_
  refine wc_region ?_
  refine reg_quiet rfl (step_C tab_ok (fun K hk => hk)) ?_
  refine reg_quiet rfl (load_box tab_ok rfl rfl rfl rfl) ?_
  refine reg_quiet rfl (rem_to tab_ok rfl rfl (by decide) hk) ?_
  refine reg_nil ?_
  refine seq_n ?_
  refine wc_block ?_
  refine wc_seq ?_
  refine wc_region ?_
  refine reg_quiet rfl (step_C tab_ok (fun K hk => hk)) ?_
  refine reg_quiet rfl (step_C tab_ok (fun K hk => hk)) ?_
  refine reg_nil ?_
  refine seq_n ?_
  refine wc_false rfl rfl ?_
  refine wc_seq ?_
  refine wc_region ?_
  refine reg_quiet rfl (step_C tab_ok (fun K hk => hk)) ?_
  refine reg_quiet rfl (step_C tab_ok (fun K hk => hk)) ?_
  refine reg_nil ?_
  refine seq_n ?_
  refine wc_false rfl rfl ?_
  refine wc_skip ?_
  refine blk_n ?_
  refine seq_n ?_
  refine wc_seq ?_
  refine wc_region ?_
  refine reg_quiet rfl (load_box tab_ok rfl rfl rfl rfl) ?_
  refine reg_quiet rfl (step_C tab_ok (fun K hk => hk)) ?_
  refine reg_quiet rfl (step_C tab_ok (fun K hk => hk)) ?_
  refine reg_quiet rfl (load_box tab_ok rfl rfl rfl rfl) ?_
  refine reg_quiet rfl (rem_to tab_ok rfl rfl (by decide) hb) ?_
  refine reg_quiet rfl (conv_int (m := (k : Int)) tab_ok rfl rfl rfl (wrap_i64 (by omega) (by omega))) ?_
  refine reg_quiet rfl (call_r hB rfl rfl (arg_e (arg_e (arg_e arg_nil))) (.inl rfl) (fun _ => rfl)) ?_
  refine reg_quiet rfl (step_C tab_ok (fun K hk => hk)) ?_
  refine reg_quiet rfl (step_C tab_ok (fun K hk => hk)) ?_
  refine reg_quiet rfl (step_C tab_ok (fun K hk => hk)) ?_
  refine reg_new (step_C tab_ok (fun K hk => hk)) rfl ?_
  refine reg_store (store_row tab_ok rfl rfl rfl ⟨_, ⟨rfl, rfl, rfl⟩, rfl⟩ rfl) ?_
  refine reg_quiet rfl (step_C tab_ok (fun K hk => hk)) ?_
  refine reg_nil ?_
  refine seq_n ?_
  refine wc_seq ?_
  refine wc_seq ?_
  refine wc_region ?_
  refine reg_quiet rfl (step_C tab_ok (fun K hk => hk)) ?_
  refine reg_quiet rfl (step_C tab_ok (fun K hk => hk)) ?_
  refine reg_nil ?_
  refine seq_n ?_
  refine wc_false rfl rfl ?_
  refine wc_skip ?_
  refine seq_n ?_
  refine wc_seq ?_
  refine wc_region ?_
  refine reg_quiet rfl (load_box tab_ok rfl rfl rfl rfl) ?_
  refine reg_quiet rfl (step_C tab_ok (fun K hk => hk)) ?_
  refine reg_quiet rfl (load_box tab_ok rfl rfl rfl rfl) ?_
  refine reg_quiet rfl (call_r hC rfl rfl (arg_e (arg_e (arg_e arg_nil))) (.inl rfl) (fun _ => rfl)) ?_
  refine reg_store (store_row tab_ok rfl rfl rfl ⟨_, ⟨rfl, rfl, rfl⟩, rfl⟩ rfl) ?_
  refine reg_quiet rfl (step_C tab_ok (fun K hk => hk)) ?_
  refine reg_nil ?_
  refine seq_n ?_
  refine wc_ret ?_
  exact ⟨trivial, _, rfl, [], .of rfl rfl rfl rfl rfl ⟨⟨_, rfl, AVLe.of_eq rfl⟩, rfl, trivial⟩ ⟨⟨rfl, rfl, _, rfl, .refl _⟩, trivial⟩⟩
theorem refO_rx (o : Opr) (l : List Int) (ex : Bool) (hp : 0 < l.length) (ho : OpOk o) (L L2 : List Vs) (s : Nat) (hN : 1 ≤ L.length ∧ L.length ≤ 10922) (hs : o.sector.tmod (L.length : Int) = s) (hk : o.kind.tmod 3 = 2) (k : Nat) (hb : o.back.tmod 8 = k) (hk8 : k < 8) (hB : FnIs Try.prog 33 [.d (encRD L), .d (i6 s), .d (i6 k)] [] (tup2 (encV noV) (bo false)) [])
     : FnIs Try.prog 14 [yO o l.length, .d (encRD L)] [(0, rowU ex l)] (tup2 (encRD L) (i6 11)) [(0, rowU ex l)] := by
  obtain ⟨⟨_, _⟩, ⟨_, _⟩, ⟨_, _⟩⟩ := ho
  refine fnIs_of tab_ok Try.func14 rfl rfl rfl ?_
  refine wc_seq ?_
  refine wc_region ?_
  refine reg_new (step_C tab_ok (fun K hk => hk)) rfl ?_
  refine reg_new (step_C tab_ok (fun K hk => hk)) rfl ?_
  refine reg_new (step_C tab_ok (fun K hk => hk)) rfl ?_
  refine reg_quiet rfl (step_C tab_ok (fun K hk => hk)) ?_
  refine reg_nil ?_
  refine seq_n ?_
  refine wc_seq ?_
  refine wc_region ?_
  refine reg_quiet rfl (step_C tab_ok (fun K hk => hk)) ?_
  refine reg_quiet rfl (load_box tab_ok rfl rfl rfl rfl) ?_
  refine reg_quiet rfl (conv_int (m := o.sector) tab_ok rfl rfl rfl (wrap_i64 (by omega) (by omega))) ?_
  refine reg_quiet rfl (step_C tab_ok (fun K hk => hk)) ?_
  refine reg_quiet rfl (load_box tab_ok rfl rfl ⟨_, rfl, rfl⟩ rfl) ?_
  refine reg_quiet rfl (len_arr tab_ok rfl rfl) ?_
  refine reg_quiet rfl (rem_to tab_ok rfl rfl (by omega) hs) ?_
  refine reg_quiet rfl (step_C tab_ok (fun K hk => hk)) ?_
  refine reg_nil ?_
  refine seq_n ?_
  refine wc_seq ?_
  refine wc_seq ?_
  refine wc_region ?_
  refine reg_quiet rfl (step_C tab_ok (fun K hk => hk)) ?_
  refine reg_quiet rfl (load_box tab_ok rfl rfl rfl rfl) ?_
  refine reg_quiet rfl (rem_to tab_ok rfl rfl (by decide) hk) ?_
  refine reg_nil ?_
  refine seq_n ?_
  refine wc_block ?_
  refine wc_seq ?_
  refine wc_region ?_
  refine reg_quiet rfl (step_C tab_ok (fun K hk => hk)) ?_
  refine reg_quiet rfl (step_C tab_ok (fun K hk => hk)) ?_
  refine reg_nil ?_
  refine seq_n ?_
  refine wc_false rfl rfl ?_
  refine wc_seq ?_
  refine wc_region ?_
  refine reg_quiet rfl (step_C tab_ok (fun K hk => hk)) ?_
  refine reg_quiet rfl (step_C tab_ok (fun K hk => hk)) ?_
  refine reg_nil ?_
  refine seq_n ?_
  refine wc_false rfl rfl ?_
  refine wc_skip ?_
  refine blk_n ?_
  refine seq_n ?_
  refine wc_seq ?_
  refine wc_region ?_
  refine reg_quiet rfl (load_box tab_ok rfl rfl rfl rfl) ?_
  refine reg_quiet rfl (step_C tab_ok (fun K hk => hk)) ?_
  refine reg_quiet rfl (step_C tab_ok (fun K hk => hk)) ?_
  refine reg_quiet rfl (load_box tab_ok rfl rfl rfl rfl) ?_
  refine reg_quiet rfl (rem_to tab_ok rfl rfl (by decide) hb) ?_
  refine reg_quiet rfl (conv_int (m := (k : Int)) tab_ok rfl rfl rfl (wrap_i64 (by omega) (by omega))) ?_
  refine reg_quiet rfl (call_r hB rfl rfl (arg_e (arg_e (arg_e arg_nil))) (.inl rfl) (fun _ => rfl)) ?_
  refine reg_quiet rfl (step_C tab_ok (fun K hk => hk)) ?_
  refine reg_quiet rfl (step_C tab_ok (fun K hk => hk)) ?_
  refine reg_quiet rfl (step_C tab_ok (fun K hk => hk)) ?_
  refine reg_new (step_C tab_ok (fun K hk => hk)) rfl ?_
  refine reg_store (store_row tab_ok rfl rfl rfl ⟨_, ⟨rfl, rfl, rfl⟩, rfl⟩ rfl) ?_
  refine reg_quiet rfl (step_C tab_ok (fun K hk => hk)) ?_
  refine reg_nil ?_
  refine seq_n ?_
  refine wc_seq ?_
  refine wc_seq ?_
  refine wc_region ?_
  refine reg_quiet rfl (step_C tab_ok (fun K hk => hk)) ?_
  refine reg_quiet rfl (step_C tab_ok (fun K hk => hk)) ?_
  refine reg_nil ?_
  refine seq_n ?_
  refine wc_true rfl rfl ?_
  refine wc_seq ?_
  refine wc_region ?_
  refine reg_quiet rfl (load_box tab_ok rfl rfl rfl rfl) ?_
  refine reg_store (store_row tab_ok rfl rfl rfl ⟨_, ⟨rfl, rfl, rfl⟩, rfl⟩ rfl) ?_
  refine reg_quiet rfl (step_C tab_ok (fun K hk => hk)) ?_
  refine reg_nil ?_
  refine seq_n ?_
  refine wc_ret ?_
  refine seq_r ?_
  exact ⟨trivial, _, rfl, [], .of rfl rfl rfl rfl rfl ⟨⟨_, rfl, AVLe.of_eq rfl⟩, rfl, trivial⟩ ⟨⟨rfl, rfl, _, rfl, .refl _⟩, trivial⟩⟩
theorem contentO_is (b : List Int) (u : Vs) (hp : 0 < b.length) (hlen : b.length ≤ 1048576) : FnIs Try.prog 35 [.d (encVer (⟨true, b⟩ :: u))] [] (.tup (.acons (.own 64 0 b.length 1 (some b.length)) (.acons (.int .i64 0) .anil))) [(64, rowU false b)] := by
  refine fnIs_of tab_ok Try.func35 rfl rfl rfl ?_
  refine wc_seq ?_
  refine wc_region ?_
  refine reg_quiet rfl (step_C tab_ok (fun K hk => hk)) ?_
  refine reg_quiet rfl (step_C tab_ok (fun K hk => hk)) ?_
  refine reg_nil ?_
  refine seq_n ?_
  refine wc_seq ?_
  refine wc_seq ?_
  refine wc_region ?_
  refine reg_quiet rfl (step_C tab_ok (fun K hk => hk)) ?_
  refine reg_quiet rfl (eql_pt rfl rfl rfl) ?_
  refine reg_quiet rfl (step_C tab_ok (fun K hk => hk)) ?_
  refine reg_on rfl rfl rfl ?_
  refine reg_quiet rfl (step_C tab_ok (fun K hk => hk)) ?_
  refine reg_on rfl rfl rfl ?_
  refine reg_quiet rfl (nilCheck_pt rfl) ?_
  refine reg_on rfl rfl rfl ?_
  refine reg_quiet rfl (step_C tab_ok (fun K hk => hk)) ?_
  refine reg_on rfl rfl rfl ?_
  refine reg_quiet rfl (load_i tab_ok rfl rfl) ?_
  refine reg_on rfl rfl rfl ?_
  refine reg_quiet rfl (step_C tab_ok (fun K hk => hk)) ?_
  refine reg_quiet rfl (pick_F tab_ok rfl rfl rfl) ?_
  refine reg_nil ?_
  refine seq_n ?_
  refine wc_false rfl rfl ?_
  refine wc_skip ?_
  refine seq_n ?_
  refine wc_seq ?_
  refine wc_region ?_
  refine reg_quiet rfl (step_C tab_ok (fun K hk => hk)) ?_
  refine reg_quiet rfl (nilCheck_pt rfl) ?_
  refine reg_quiet rfl (step_C tab_ok (fun K hk => hk)) ?_
  refine reg_quiet rfl (load_i tab_ok rfl rfl) ?_
  refine reg_new (call_new (clone_ne b hp hlen) rfl rfl (arg_e arg_nil) (.inl rfl) rfl rfl) rfl ?_
  refine reg_new2 (call_h [(0, some 184)] (clip_is b b.length false) rfl rfl rfl (arg_give rfl rfl arg_nil) ⟨⟨rfl, rfl, _, _, rfl, rfl, .refl _⟩, trivial⟩ rfl rfl (.inl rfl) rfl rfl) rfl ?_
  refine reg_quiet rfl (step_C tab_ok (fun K hk => hk)) ?_
  refine reg_quiet rfl (step_C tab_ok (fun K hk => hk)) ?_
  refine reg_nil ?_
  refine seq_n ?_
  refine wc_ret ?_
  exact ⟨trivial, [(64, some 184)], .of rfl rfl rfl rfl rfl ⟨⟨_, rfl, AVLe.of_eq rfl⟩, rfl, trivial⟩ ⟨⟨rfl, rfl, _, rfl, .refl _⟩, trivial⟩⟩
theorem readO_ok (d : Dk) (s : Nat) (c : List Vs) (b : List Int) (u : Vs) (h : At d s c (⟨true, b⟩ :: u)) (hp : 0 < b.length) (hlen : b.length ≤ 1048576) : FnIs Try.prog 18 [.d (encDk d), .d (i6 s)] [] (.tup (.acons (.own 64 0 b.length 1 (some b.length)) (.acons (.int .i64 0) .anil))) [(64, rowU false b)] := by
  have hN := h.new
  have hC := contentO_is b u hp hlen
  refine fnIs_of tab_ok Try.func18 rfl rfl rfl ?_
  refine wc_seq ?_
  refine wc_region ?_
  refine reg_new (step_C tab_ok (fun K hk => hk)) rfl ?_
  refine reg_quiet rfl (step_C tab_ok (fun K hk => hk)) ?_
  refine reg_quiet rfl (step_C tab_ok (fun K hk => hk)) ?_
  refine reg_nil ?_
  refine seq_n ?_
  refine wc_seq ?_
  refine wc_region ?_
  refine reg_quiet rfl (load_box tab_ok rfl rfl rfl rfl) ?_
  refine reg_quiet rfl (step_C tab_ok (fun K hk => hk)) ?_
  refine reg_quiet rfl (call_r hN rfl rfl (arg_e (arg_e arg_nil)) (.inl rfl) (fun _ => rfl)) ?_
  refine reg_quiet rfl (step_C tab_ok (fun K hk => hk)) ?_
  refine reg_quiet rfl (step_C tab_ok (fun K hk => hk)) ?_
  refine reg_quiet rfl (step_C tab_ok (fun K hk => hk)) ?_
  refine reg_quiet rfl (step_C tab_ok (fun K hk => hk)) ?_
  refine reg_quiet rfl (step_C tab_ok (fun K hk => hk)) ?_
  refine reg_nil ?_
  refine seq_n ?_
  refine wc_seq ?_
  refine wc_seq ?_
  refine wc_region ?_
  refine reg_quiet rfl (step_C tab_ok (fun K hk => hk)) ?_
  refine reg_quiet rfl (step_C tab_ok (fun K hk => hk)) ?_
  refine reg_nil ?_
  refine seq_n ?_
  refine wc_false rfl rfl ?_
  refine wc_skip ?_
  refine seq_n ?_
  refine wc_seq ?_
  refine wc_region ?_
  refine reg_quiet rfl (step_C tab_ok (fun K hk => hk)) ?_
  refine reg_new (call_new hC rfl rfl (arg_e arg_nil) (.inl rfl) rfl rfl) rfl ?_
  refine reg_quiet rfl (step_C tab_ok (fun K hk => hk)) ?_
  refine reg_quiet rfl (step_C tab_ok (fun K hk => hk)) ?_
  refine reg_quiet rfl (step_C tab_ok (fun K hk => hk)) ?_
  refine reg_quiet rfl (step_C tab_ok (fun K hk => hk)) ?_
  refine reg_nil ?_
  refine seq_n ?_
  refine wc_ret ?_

  exact ⟨trivial, [(64, some 176)], .of rfl rfl rfl rfl rfl ⟨⟨_, rfl, AVLe.of_eq rfl⟩, rfl, trivial⟩ ⟨⟨rfl, rfl, _, rfl, .refl _⟩, trivial⟩⟩
theorem contentL_own (b : List Int) (ex : Bool) (hp : 0 < b.length) : FnIs Try.prog 19 [.own 0 0 b.length 1 (some b.length), .d (i6 0), .d (encV ⟨true, b⟩)] [(0, rowU ex b)] (.int .i64 1) [(0, rowU ex b)] := by
  have f1 : (!decide (strOf b = strOf b)) = false := by simp
  have f2 : (!decide ((b.length : Int) = b.length)) = false := by simp
  refine fnIs_of tab_ok Try.func19 rfl rfl rfl ?_
  refine wc_seq ?_
  refine wc_region ?_
  refine reg_new (step_C tab_ok (fun K hk => hk)) rfl ?_
  refine reg_quiet rfl (step_C tab_ok (fun K hk => hk)) ?_
  refine reg_nil ?_
  refine seq_n ?_
  refine wc_seq ?_
  refine wc_seq ?_
  refine wc_region ?_
  refine reg_quiet rfl (step_C tab_ok (fun K hk => hk)) ?_
  refine reg_quiet rfl (load_box tab_ok rfl rfl ⟨_, rfl, rfl⟩ rfl) ?_
  refine reg_quiet rfl (step_C tab_ok (fun K hk => hk)) ?_
  refine reg_nil ?_
  refine seq_n ?_
  refine wc_false rfl rfl ?_
  refine wc_skip ?_
  refine seq_n ?_
  refine wc_seq ?_
  refine wc_seq ?_
  refine wc_region ?_
  refine reg_quiet rfl (step_C tab_ok (fun K hk => hk)) ?_
  refine reg_quiet rfl (step_C tab_ok (fun K hk => hk)) ?_
  refine reg_quiet rfl (step_C tab_ok (fun K hk => hk)) ?_
  refine reg_on rfl rfl rfl ?_
  refine reg_quiet rfl (step_C tab_ok (fun K hk => hk)) ?_
  refine reg_on rfl rfl rfl ?_
  refine reg_quiet rfl (conv_own tab_ok rfl rfl rfl rfl rfl rfl hp) ?_
  refine reg_on rfl rfl rfl ?_
  refine reg_quiet rfl (step_C tab_ok (fun K hk => hk)) ?_
  refine reg_on rfl rfl rfl ?_
  refine reg_quiet rfl (load_box tab_ok rfl rfl ⟨_, rfl, rfl⟩ rfl) ?_
  refine reg_on rfl rfl rfl ?_
  refine reg_quiet rfl (neq_str tab_ok rfl rfl rfl) ?_
  refine reg_quiet rfl (pick_F tab_ok rfl rfl rfl) ?_
  refine reg_quiet rfl (step_C tab_ok (fun K hk => hk)) ?_
  refine reg_on rfl rfl (by assumption) ?_
  refine reg_quiet rfl (step_C tab_ok (fun K hk => hk)) ?_
  refine reg_on rfl rfl (by assumption) ?_
  refine reg_quiet rfl (cap_own tab_ok rfl rfl) ?_
  refine reg_on rfl rfl (by assumption) ?_
  refine reg_quiet rfl (step_C tab_ok (fun K hk => hk)) ?_
  refine reg_on rfl rfl (by assumption) ?_
  refine reg_quiet rfl (len_own tab_ok rfl rfl) ?_
  refine reg_on rfl rfl (by assumption) ?_
  refine reg_quiet rfl (step_C tab_ok (fun K hk => hk)) ?_
  refine reg_quiet rfl (pick_F tab_ok rfl (by assumption) rfl) ?_
  refine reg_nil ?_
  refine seq_n ?_
  refine wc_false rfl (by assumption) ?_
  refine wc_skip ?_
  refine seq_n ?_
  refine wc_seq ?_
  refine wc_region ?_
  refine reg_quiet rfl (step_C tab_ok (fun K hk => hk)) ?_
  refine reg_nil ?_
  refine seq_n ?_
  refine wc_ret ?_
  exact ⟨trivial, [], .of rfl rfl rfl rfl rfl ⟨⟨_, rfl, AVLe.of_eq rfl⟩, rfl, trivial⟩ ⟨⟨rfl, rfl, _, rfl, .refl _⟩, trivial⟩⟩
end Go.Proofs.Ytfmemklkkmiicaa

/- DisksValues: the walks. -/
namespace Go.Proofs.Ytfmemklkkmiicaa
open Go.Eng
set_option maxHeartbeats 8000000
set_option maxRecDepth 4000
set_option linter.unusedVariables false
attribute [local irreducible] WC RegS RegD SeqQ BlkQ ScoQ RegK CutK Sat SatN FnIs LoopQ StepIs OpIs
abbrev inc (x : Int) : Int := IntKind.u8.wrap (x + 1)
def incK (l : List Int) (i : Nat) : List Int := (l.take i).map inc ++ l.drop i
theorem incK_len (l : List Int) (i : Nat) (h : i ≤ l.length) : (incK l i).length = l.length := by simp [incK]; omega
theorem incK_get {l : List Int} {i : Nat} {x : Int} (h : l[i]? = some x) : (incK l i)[i]? = some x := by
  have hlt := (List.getElem?_eq_some_iff.1 h).1
  rw [incK, List.getElem?_append_right (by simp; omega), List.length_map, List.length_take, Nat.min_eq_left (by omega), Nat.sub_self, List.getElem?_drop, Nat.add_zero]
  exact h
theorem incK_set {l : List Int} {i : Nat} {x : Int} (h : l[i]? = some x) : (incK l i).set i (inc x) = incK l (i + 1) := by
  have hlt := (List.getElem?_eq_some_iff.1 h).1
  have hd : l.drop i = x :: l.drop (i + 1) := by
    rw [List.drop_eq_getElem_cons hlt, (List.getElem?_eq_some_iff.1 h).2]
  rw [incK, incK, List.set_append_right _ _ (by simp; omega), List.length_map, List.length_take, Nat.min_eq_left (by omega), Nat.sub_self, hd, List.set_cons_zero, List.take_add_one, h, List.map_append]
  simp
theorem incK_zero (l : List Int) : incK l 0 = l := by simp [incK]
abbrev yA (o : Opr) (r n : Nat) : AV := .acons (.d (u8s o.kind)) (.acons (.d (u8s o.sector)) (.acons (.d (u8s o.back)) (.acons (.own r 0 n 1 none) (.d .nil))))
theorem arg_yO {look : Nat → Option Row} {ρ : Nat → Option Nat} {o : Opr} {r k n : Nat} {bs avs : List AV} (h1 : ρ r = some k) (b1 : Nat.blt r 64 = true) (ht : ArgsA look ρ bs avs) : ArgsA look ρ (yA o k n :: bs) (yA o r n :: avs) :=
  ⟨_, avs, rfl, ⟨rfl, by simp [AV.lt, b1]⟩, AVLe.of_eq (by simp only [AV.ren, h1]), ht⟩
abbrev yN (a b c : Int) : Opr := ⟨a, b, c, []⟩
abbrev yE (o : Opr) : D := .cons (u8s o.kind) (.cons (u8s o.sector) (.cons (u8s o.back) (.cons (.sc nil_) .nil)))
theorem arg_yE {look : Nat → Option Row} {ρ : Nat → Option Nat} {o : Opr} {bs avs : List AV} (he : o.bytes = []) (ht : ArgsA look ρ bs avs) : ArgsA look ρ (.d (yE o) :: bs) (.d (encOpr o) :: avs) :=
  arg_d rfl trivial (DLe.cons (DLe.refl _) (DLe.cons (DLe.refl _) (DLe.cons (DLe.refl _) (DLe.cons (by rw [he]; exact DLe.nil_arr 1 encU8) (DLe.refl _))))) ht
theorem val_eo (x : Int × List Opr) (yk ysc yb : Int) (z : Opr) (hy : OpOk (yN yk ysc yb)) (hz : OpOk z) (N s : Nat) (hNb : 1 ≤ N ∧ N ≤ 130) (hse : ysc.tmod (N : Int) = s) (d da db : Dk) (L LA LB : List Vs) (ea eb : Int)
    (hSz : FnIs Try.prog 10 [.d (encX x)] [] (.int .i64 N) []) (hOf : FnIs Try.prog 16 [.d (encX x)] [] (.d (encDk d)) []) (hRef : FnIs Try.prog 17 [.d (encX x)] [] (.d (encRD L)) [])
    (hDz : FnIs Try.prog 13 [.d (encOpr z), .d (encDk d), .d (i6 N)] [] (tup2 (encDk db) (i6 eb)) []) (hRz : FnIs Try.prog 14 [.d (encOpr z), .d (encRD L)] [] (tup2 (encRD LB) (i6 eb)) [])
    (q1 : FnIs Try.prog 12 [.d (encDk d), .d (encRD L)] [] (.int .i64 1) []) (q2 : FnIs Try.prog 12 [.d (encDk da), .d (encRD LA)] [] (.int .i64 1) []) (q3 : FnIs Try.prog 12 [.d (encDk db), .d (encRD LB)] [] (.int .i64 1) [])
    (hDy : FnIs Try.prog 13 [.d (encOpr (yN yk ysc yb)), .d (encDk d), .d (i6 N)] [] (tup2 (encDk da) (i6 ea)) []) (hRy : FnIs Try.prog 14 [.d (encOpr (yN yk ysc yb)), .d (encRD L)] [] (tup2 (encRD LA) (i6 ea)) [])
    (b : List Int) (hpb : 0 < b.length) (hlb : b.length ≤ 1048576) (hRd : FnIs Try.prog 18 [.d (encDk da), .d (i6 s)] [] (.tup (.acons (.own 64 0 b.length 1 (some b.length)) (.acons (.int .i64 0) .anil))) [(64, rowU false b)]) (hLast : FnIs Try.prog 20 [.d (encRD LA), .d (i6 s)] [] (.d (encV ⟨true, b⟩)) []) : FnIs Try.prog 4 [.d (encX x), .d (encOpr (yN yk ysc yb)), .d (encOpr z)] [] (.bool true) [] := by
  have hs0 : 0 ≤ ysc ∧ ysc ≤ 255 := hy.s
  have hws : IntKind.i64.wrap ysc = ysc := wrap_i64 (by omega) (by omega)
  skip
  refine fnIs_of tab_ok Try.func4 rfl rfl rfl ?_
  refine wc_seq ?_
  refine wc_region ?_
  refine reg_new (step_C tab_ok (fun K hk => hk)) rfl ?_
  refine reg_new (step_C tab_ok (fun K hk => hk)) rfl ?_
  refine reg_new (step_C tab_ok (fun K hk => hk)) rfl ?_
  refine reg_quiet rfl (step_C tab_ok (fun K hk => hk)) ?_
  refine reg_nil ?_
  refine seq_n ?_
  refine wc_seq ?_
  refine wc_region ?_
  refine reg_quiet rfl (load_box tab_ok rfl rfl rfl rfl) ?_
  refine reg_quiet rfl (call_r hOf rfl rfl (arg_e arg_nil) (.inl rfl) (fun _ => rfl)) ?_
  refine reg_new (step_C tab_ok (fun K hk => hk)) rfl ?_
  refine reg_store (store_row tab_ok rfl rfl rfl ⟨_, ⟨rfl, rfl, rfl⟩, rfl⟩ rfl) ?_
  refine reg_nil ?_
  refine seq_n ?_
  refine wc_seq ?_
  refine wc_region ?_
  refine reg_quiet rfl (step_C tab_ok (fun K hk => hk)) ?_
  refine reg_quiet rfl (load_box tab_ok rfl rfl ⟨_, rfl, rfl⟩ rfl) ?_
  refine reg_quiet rfl (append_n_e tab_ok rfl rfl rfl rfl) ?_
  refine reg_quiet rfl (step_C tab_ok (fun K hk => hk)) ?_
  refine reg_nil ?_
  refine seq_n ?_
  refine wc_seq ?_
  refine wc_region ?_
  refine reg_quiet rfl (step_C tab_ok (fun K hk => hk)) ?_
  refine reg_quiet rfl (step_C tab_ok (fun K hk => hk)) ?_
  refine reg_store (store_row tab_ok rfl rfl rfl ⟨_, ⟨_, ⟨_, ⟨rfl, rfl, rfl⟩, rfl⟩, rfl⟩, rfl⟩ rfl) ?_
  refine reg_nil ?_
  refine seq_n ?_
  refine wc_seq ?_
  refine wc_draw (by kernel_rfl) ?_
  refine dreg_q [4] [72] rfl (load_box tab_ok rfl rfl rfl rfl) ?_
  refine dreg_q [7] [112] rfl (load_box tab_ok rfl rfl rfl rfl) ?_
  refine dreg_q [3] [64] rfl (load_box tab_ok rfl rfl rfl rfl) ?_
  refine dreg_q [33] [] rfl (call_r hSz rfl rfl (arg_e arg_nil) (.inl rfl) (fun _ => rfl)) ?_
  refine dreg_q [31, 32, 34] [] rfl (call_r hDy rfl rfl (arg_yE rfl (arg_e (arg_e arg_nil))) (.inl rfl) (fun _ => rfl)) ?_
  refine dreg_q [35] [] rfl (step_C tab_ok (fun K hk => hk)) ?_
  refine dreg_q [30] [] rfl (step_C tab_ok (fun K hk => hk)) ?_
  refine dreg_q [30] [] rfl (step_C tab_ok (fun K hk => hk)) ?_
  refine dreg_w [] [] rfl (step_C tab_ok (fun K hk => hk)) ?_
  refine dreg_s [9, 36] [248] (store_row tab_ok rfl rfl rfl ⟨_, ⟨rfl, rfl, rfl⟩, rfl⟩ rfl) ?_
  refine dreg_q [37] [] rfl (step_C tab_ok (fun K hk => hk)) ?_
  refine dreg_end (by kernel_rfl) ?_
  refine seq_n ?_
  refine wc_seq ?_
  refine wc_draw (by kernel_rfl) ?_
  refine dreg_q [5] [80] rfl (load_box tab_ok rfl rfl rfl rfl) ?_
  refine dreg_q [7] [112] rfl (load_box tab_ok rfl rfl rfl rfl) ?_
  refine dreg_q [3] [64] rfl (load_box tab_ok rfl rfl rfl rfl) ?_
  refine dreg_q [41] [] rfl (call_r hSz rfl rfl (arg_e arg_nil) (.inl rfl) (fun _ => rfl)) ?_
  refine dreg_q [39, 40, 42] [] rfl (call_r hDz rfl rfl (arg_e (arg_e (arg_e arg_nil))) (.inl rfl) (fun _ => rfl)) ?_
  refine dreg_q [43] [] rfl (step_C tab_ok (fun K hk => hk)) ?_
  refine dreg_q [38] [] rfl (step_C tab_ok (fun K hk => hk)) ?_
  refine dreg_q [38] [] rfl (step_C tab_ok (fun K hk => hk)) ?_
  refine dreg_w [] [] rfl (step_C tab_ok (fun K hk => hk)) ?_
  refine dreg_s [11, 44] [336] (store_row tab_ok rfl rfl rfl ⟨_, ⟨rfl, rfl, rfl⟩, rfl⟩ rfl) ?_
  refine dreg_q [45] [] rfl (step_C tab_ok (fun K hk => hk)) ?_
  refine dreg_end (by kernel_rfl) ?_
  refine seq_n ?_
  refine wc_seq ?_
  refine wc_region ?_
  refine reg_quiet rfl (load_box tab_ok rfl rfl rfl rfl) ?_
  refine reg_quiet rfl (call_r hRef rfl rfl (arg_e arg_nil) (.inl rfl) (fun _ => rfl)) ?_
  refine reg_new (step_C tab_ok (fun K hk => hk)) rfl ?_
  refine reg_store (store_row tab_ok rfl rfl rfl ⟨_, ⟨rfl, rfl, rfl⟩, rfl⟩ rfl) ?_
  refine reg_nil ?_
  refine seq_n ?_
  refine wc_seq ?_
  refine wc_region ?_
  refine reg_quiet rfl (load_box tab_ok rfl rfl rfl rfl) ?_
  refine reg_quiet rfl (load_box tab_ok rfl rfl rfl rfl) ?_
  refine reg_quiet rfl (call_r hRy rfl rfl (arg_yE rfl (arg_e arg_nil)) (.inl rfl) (fun _ => rfl)) ?_
  refine reg_quiet rfl (step_C tab_ok (fun K hk => hk)) ?_
  refine reg_quiet rfl (step_C tab_ok (fun K hk => hk)) ?_
  refine reg_quiet rfl (step_C tab_ok (fun K hk => hk)) ?_
  refine reg_new (step_C tab_ok (fun K hk => hk)) rfl ?_
  refine reg_store (store_row tab_ok rfl rfl rfl ⟨_, ⟨rfl, rfl, rfl⟩, rfl⟩ rfl) ?_
  refine reg_quiet rfl (step_C tab_ok (fun K hk => hk)) ?_
  refine reg_nil ?_
  refine seq_n ?_
  refine wc_seq ?_
  refine wc_region ?_
  refine reg_quiet rfl (load_box tab_ok rfl rfl rfl rfl) ?_
  refine reg_quiet rfl (load_box tab_ok rfl rfl rfl rfl) ?_
  refine reg_quiet rfl (call_r hRz rfl rfl (arg_e (arg_e arg_nil)) (.inl rfl) (fun _ => rfl)) ?_
  refine reg_quiet rfl (step_C tab_ok (fun K hk => hk)) ?_
  refine reg_quiet rfl (step_C tab_ok (fun K hk => hk)) ?_
  refine reg_quiet rfl (step_C tab_ok (fun K hk => hk)) ?_
  refine reg_new (step_C tab_ok (fun K hk => hk)) rfl ?_
  refine reg_store (store_row tab_ok rfl rfl rfl ⟨_, ⟨rfl, rfl, rfl⟩, rfl⟩ rfl) ?_
  refine reg_quiet rfl (step_C tab_ok (fun K hk => hk)) ?_
  refine reg_nil ?_
  refine seq_n ?_
  refine wc_seq ?_
  refine wc_seq ?_
  refine wc_region ?_
  refine reg_quiet rfl (step_C tab_ok (fun K hk => hk)) ?_
  refine reg_nil ?_
  refine seq_n ?_
  refine wc_block ?_
  refine wc_inv (fun i : Nat => ⟨[(18, .int .i64 i), (8, .d (.sc nil_)), (3, .ptr 64 []), (4, .ptr 65 []), (7, .ptr 66 []), (9, .ptr 67 []), (11, .ptr 68 []), (13, .ptr 69 []), (14, .ptr 70 []), (16, .ptr 71 [])], [(64, some (.box 24 (.d (encX x)))), (65, some (.box 39 (.d (yE (yN yk ysc yb))))), (66, some (.box 27 (.d (encDk d)))), (67, some (.box 27 (.d (encDk da)))), (68, some (.box 27 (.d (encDk db)))), (69, some (.box 34 (.d (encRD L)))), (70, some (.box 34 (.d (encRD LA)))), (71, some (.box 34 (.d (encRD LB))))], 80, Try.f4.ntmps, 64⟩) (fun i => i ≤ 0) (fun i => 0 - i) 0 [(64, some 64), (65, some 72), (66, some 112), (67, some 248), (68, some 336), (69, some 376), (70, some 440), (71, some 512)] (Nat.zero_le _)
    (.of rfl rfl rfl rfl rfl ⟨⟨_, rfl, .refl _⟩, rfl, ⟨_, rfl, .refl _⟩, rfl, ⟨_, rfl, .refl _⟩, rfl, ⟨_, rfl, .refl _⟩, rfl, ⟨_, rfl, .refl _⟩, rfl, ⟨_, rfl, .refl _⟩, rfl, ⟨_, rfl, .refl _⟩, rfl, ⟨_, rfl, .refl _⟩, rfl, ⟨_, rfl, .refl _⟩, rfl, ⟨_, rfl, .refl _⟩, rfl, trivial⟩ ⟨⟨rfl, rfl, _, rfl, .refl _⟩, ⟨rfl, rfl, _, rfl, .refl _⟩, ⟨rfl, rfl, _, rfl, .refl _⟩, ⟨rfl, rfl, _, rfl, .refl _⟩, ⟨rfl, rfl, _, rfl, .refl _⟩, ⟨rfl, rfl, _, rfl, .refl _⟩, ⟨rfl, rfl, _, rfl, .refl _⟩, ⟨rfl, rfl, _, rfl, .refl _⟩, trivial⟩) ?_
  intro i hi
  obtain rfl : i = 0 := by omega
  refine wc_of ?_
  refine wc_seq ?_
  refine wc_seq ?_
  refine wc_region ?_
  refine reg_quiet rfl (step_C tab_ok (fun K hk => hk)) ?_
  refine reg_quiet rfl (step_C tab_ok (fun K hk => hk)) ?_
  refine reg_quiet rfl (len_nil tab_ok rfl rfl) ?_
  refine reg_quiet rfl (step_C tab_ok (fun K hk => hk)) ?_
  refine reg_nil ?_
  refine seq_n ?_
  refine wc_false rfl rfl ?_
  refine wc_exit ?_
  refine seq_x ?_
  refine loop_x ?_
  refine blk_x ?_
  refine seq_n ?_
  refine wc_seq ?_
  refine wc_draw (by kernel_rfl) ?_
  refine dreg_q [4] [65] rfl (step_C tab_ok (fun K hk => hk)) ?_
  refine dreg_q [72] [65] rfl (load_box tab_ok rfl rfl ⟨_, rfl, rfl⟩ rfl) ?_
  refine dreg_q [73] [] rfl (conv_int (m := ysc) tab_ok rfl rfl rfl hws) ?_
  refine dreg_q [3] [64] rfl (load_box tab_ok rfl rfl rfl rfl) ?_
  refine dreg_q [75] [] rfl (call_r hSz rfl rfl (arg_e arg_nil) (.inl rfl) (fun _ => rfl)) ?_
  refine dreg_q [74, 76] [] rfl (rem_to tab_ok rfl rfl (by omega) hse) ?_
  refine dreg_q [77] [] rfl (step_C tab_ok (fun K hk => hk)) ?_
  refine dreg_end (by kernel_rfl) ?_
  refine seq_n ?_
  refine wc_seq ?_
  refine wc_region ?_
  refine reg_quiet rfl (load_box tab_ok rfl rfl rfl rfl) ?_
  refine reg_quiet rfl (step_C tab_ok (fun K hk => hk)) ?_
  refine reg_new (call_new hRd rfl rfl (arg_e (arg_e arg_nil)) (.inl rfl) rfl rfl) rfl ?_
  refine reg_quiet rfl (step_C tab_ok (fun K hk => hk)) ?_
  refine reg_quiet rfl (step_C tab_ok (fun K hk => hk)) ?_
  refine reg_quiet rfl (step_C tab_ok (fun K hk => hk)) ?_
  refine reg_quiet rfl (step_C tab_ok (fun K hk => hk)) ?_
  refine reg_quiet rfl (step_C tab_ok (fun K hk => hk)) ?_
  refine reg_nil ?_
  refine seq_n ?_
  refine wc_seq ?_
  refine wc_seq ?_
  refine wc_region ?_
  refine reg_quiet rfl (step_C tab_ok (fun K hk => hk)) ?_
  refine reg_quiet rfl (step_C tab_ok (fun K hk => hk)) ?_
  refine reg_quiet rfl (load_box tab_ok rfl rfl rfl rfl) ?_
  refine reg_quiet rfl (step_C tab_ok (fun K hk => hk)) ?_
  refine reg_quiet rfl (call_r hLast rfl rfl (arg_e (arg_e arg_nil)) (.inl rfl) (fun _ => rfl)) ?_
  refine reg_new2 (call_h [(0, some 184)] (contentL_own b false hpb) rfl rfl rfl (arg_give rfl rfl (arg_e (arg_e arg_nil))) ⟨⟨rfl, rfl, _, _, rfl, rfl, .refl _⟩, trivial⟩ rfl rfl (.inl rfl) rfl rfl) rfl ?_
  refine reg_quiet rfl (step_C tab_ok (fun K hk => hk)) ?_
  refine reg_nil ?_
  refine seq_n ?_
  refine wc_false rfl rfl ?_
  refine wc_skip ?_
  refine seq_n ?_
  refine wc_seq ?_
  refine wc_seq ?_
  refine wc_region ?_
  refine reg_quiet rfl (step_C tab_ok (fun K hk => hk)) ?_
  refine reg_nil ?_
  refine seq_n ?_
  refine wc_block ?_
  refine wc_inv (fun j : Nat => ⟨[(22, .int .i64 j), (20, .own 73 0 b.length 1 (some b.length)), (7, .ptr 66 []), (9, .ptr 67 []), (11, .ptr 68 []), (13, .ptr 69 []), (14, .ptr 70 []), (16, .ptr 71 [])], [(66, some (.box 27 (.d (encDk d)))), (67, some (.box 27 (.d (encDk da)))), (68, some (.box 27 (.d (encDk db)))), (69, some (.box 34 (.d (encRD L)))), (70, some (.box 34 (.d (encRD LA)))), (71, some (.box 34 (.d (encRD LB)))), (73, some (rowU false (incK b j)))], 80, Try.f4.ntmps, 64⟩) (fun j => j ≤ b.length) (fun j => b.length - j) 0 [(66, some 66), (67, some 67), (68, some 68), (69, some 69), (70, some 70), (71, some 71), (73, some 184)] (Nat.zero_le _)
    (.of rfl rfl rfl rfl rfl ⟨⟨_, rfl, .refl _⟩, rfl, ⟨_, rfl, .refl _⟩, rfl, ⟨_, rfl, .refl _⟩, rfl, ⟨_, rfl, .refl _⟩, rfl, ⟨_, rfl, .refl _⟩, rfl, ⟨_, rfl, .refl _⟩, rfl, ⟨_, rfl, .refl _⟩, rfl, ⟨_, rfl, .refl _⟩, rfl, trivial⟩ ⟨⟨rfl, rfl, _, rfl, .refl _⟩, ⟨rfl, rfl, _, rfl, .refl _⟩, ⟨rfl, rfl, _, rfl, .refl _⟩, ⟨rfl, rfl, _, rfl, .refl _⟩, ⟨rfl, rfl, _, rfl, .refl _⟩, ⟨rfl, rfl, _, rfl, .refl _⟩, ⟨rfl, rfl, _, rfl, .of_eq (by rw [incK_zero]; rfl)⟩, trivial⟩) ?_
  intro j hj
  have hjl := incK_len b j hj
  refine wc_of ?_
  refine wc_seq ?_
  refine wc_seq ?_
  refine wc_region ?_
  refine reg_quiet rfl (step_C tab_ok (fun K hk => hk)) ?_
  refine reg_quiet rfl (step_C tab_ok (fun K hk => hk)) ?_
  refine reg_quiet rfl (len_own tab_ok rfl rfl) ?_
  refine reg_quiet rfl (step_C tab_ok (fun K hk => hk)) ?_
  refine reg_nil ?_
  refine seq_n ?_
  refine wc_cond rfl (fun h3 => ?_) (fun h3 => ?_)
  · have hlt : j < b.length := by have := of_decide_eq_true h3; omega
    obtain ⟨e, he0⟩ : ∃ e, b[j]? = some e := ⟨_, List.getElem?_eq_getElem hlt⟩
    have he : (incK b j)[((j : Int)).toNat]? = some e := by rw [Int.toNat_natCast]; exact incK_get he0
    have hset := incK_set he0
    refine wc_skip ?_
    refine seq_n ?_
    refine wc_seq ?_
    refine wc_block ?_
    refine wc_region ?_
    refine reg_quiet rfl (step_C tab_ok (fun K hk => hk)) ?_
    refine reg_quiet rfl (step_C tab_ok (fun K hk => hk)) ?_
    refine reg_quiet rfl (index_own tab_ok rfl rfl rfl rfl rfl (by omega) (by omega)) ?_
    refine reg_quiet rfl (load_row (v := .int .u8 e) tab_ok rfl rfl ⟨rfl, e, he, encU8 e, rfl, rfl⟩ rfl) ?_
    refine reg_quiet rfl (add_int (m := inc e) tab_ok rfl rfl rfl) ?_
    refine reg_quiet rfl (index_own tab_ok rfl rfl rfl rfl rfl (by omega) (by omega)) ?_
    refine reg_store (store_row tab_ok rfl rfl rfl ⟨rfl, e, inc e, he, ⟨rfl, rfl, rfl⟩, rfl⟩ rfl) ?_
    refine reg_nil ?_
    refine blk_n ?_
    refine seq_n ?_
    refine wc_region ?_
    refine reg_quiet rfl (step_C tab_ok (fun K hk => hk)) ?_
    refine reg_quiet rfl (add_int tab_ok rfl rfl (wrap_i64 (by omega) (by omega))) ?_
    refine reg_quiet rfl (step_C tab_ok (fun K hk => hk)) ?_
    refine reg_nil ?_
    refine loop_n (j + 1) [(66, some 66), (67, some 67), (68, some 68), (69, some 69), (70, some 70), (71, some 71), (73, some 73)] (show j + 1 ≤ b.length from hlt) (show b.length - (j + 1) < b.length - j by omega) ?_
    exact .of rfl rfl rfl rfl rfl ⟨⟨_, rfl, .refl _⟩, rfl, ⟨_, rfl, .refl _⟩, rfl, ⟨_, rfl, .refl _⟩, rfl, ⟨_, rfl, .refl _⟩, rfl, ⟨_, rfl, .refl _⟩, rfl, ⟨_, rfl, .refl _⟩, rfl, ⟨_, rfl, .refl _⟩, rfl, ⟨_, rfl, .refl _⟩, rfl, trivial⟩ ⟨⟨rfl, rfl, _, rfl, .refl _⟩, ⟨rfl, rfl, _, rfl, .refl _⟩, ⟨rfl, rfl, _, rfl, .refl _⟩, ⟨rfl, rfl, _, rfl, .refl _⟩, ⟨rfl, rfl, _, rfl, .refl _⟩, ⟨rfl, rfl, _, rfl, .refl _⟩, ⟨rfl, rfl, _, rfl, .of_eq (by rw [← hset]; rfl)⟩, trivial⟩
  · obtain rfl : j = b.length := by have := of_decide_eq_false h3; omega
    refine wc_exit ?_
    refine seq_x ?_
    refine loop_x ?_
    refine blk_x ?_
    refine seq_n ?_
    refine wc_seq ?_
    refine wc_draw (by kernel_rfl) ?_
    refine dreg_q [7] [66] rfl (load_box tab_ok rfl rfl rfl rfl) ?_
    refine dreg_q [13] [69] rfl (load_box tab_ok rfl rfl rfl rfl) ?_
    refine dreg_q [103, 104] [] rfl (call_r q1 rfl rfl (arg_e (arg_e arg_nil)) (.inl rfl) (fun _ => rfl)) ?_
    refine dreg_q [9] [67] rfl (load_box tab_ok rfl rfl rfl rfl) ?_
    refine dreg_q [14] [70] rfl (load_box tab_ok rfl rfl rfl rfl) ?_
    refine dreg_q [106, 107] [] rfl (call_r q2 rfl rfl (arg_e (arg_e arg_nil)) (.inl rfl) (fun _ => rfl)) ?_
    refine dreg_q [105, 108] [] rfl (mul_int (m := 1) tab_ok rfl rfl rfl) ?_
    refine dreg_q [11] [68] rfl (load_box tab_ok rfl rfl rfl rfl) ?_
    refine dreg_q [16] [71] rfl (load_box tab_ok rfl rfl rfl rfl) ?_
    refine dreg_q [110, 111] [] rfl (call_r q3 rfl rfl (arg_e (arg_e arg_nil)) (.inl rfl) (fun _ => rfl)) ?_
    refine dreg_q [109, 112] [] rfl (mul_int (m := 1) tab_ok rfl rfl rfl) ?_
    refine dreg_q [113] [] rfl (step_C tab_ok (fun K hk => hk)) ?_
    refine dreg_q [114] [] rfl (step_C tab_ok (fun K hk => hk)) ?_
    refine dreg_onq [115] [] rfl rfl rfl rfl (call_r lives_is rfl rfl arg_nil (.inl rfl) (fun _ => rfl)) ?_
    refine dreg_q [115, 116] [] rfl (pick_T tab_ok rfl rfl rfl) ?_
    refine dreg_q [117] [] rfl (step_C tab_ok (fun K hk => hk)) ?_
    refine dreg_end (by kernel_rfl) ?_
    refine seq_n ?_
    refine wc_ret ?_
    exact ⟨trivial, [], .of rfl rfl rfl rfl rfl ⟨⟨_, rfl, AVLe.of_eq rfl⟩, rfl, trivial⟩ trivial⟩
theorem val_ea (x : Int × List Opr) (yk ysc yb : Int) (z : Opr) (hy : OpOk (yN yk ysc yb)) (hz : OpOk z) (N s : Nat) (hNb : 1 ≤ N ∧ N ≤ 130) (hse : ysc.tmod (N : Int) = s) (d da db : Dk) (L LA LB : List Vs) (ea eb : Int)
    (hSz : FnIs Try.prog 10 [.d (encX x)] [] (.int .i64 N) []) (hOf : FnIs Try.prog 16 [.d (encX x)] [] (.d (encDk d)) []) (hRef : FnIs Try.prog 17 [.d (encX x)] [] (.d (encRD L)) [])
    (hDz : FnIs Try.prog 13 [.d (encOpr z), .d (encDk d), .d (i6 N)] [] (tup2 (encDk db) (i6 eb)) []) (hRz : FnIs Try.prog 14 [.d (encOpr z), .d (encRD L)] [] (tup2 (encRD LB) (i6 eb)) [])
    (q1 : FnIs Try.prog 12 [.d (encDk d), .d (encRD L)] [] (.int .i64 1) []) (q2 : FnIs Try.prog 12 [.d (encDk da), .d (encRD LA)] [] (.int .i64 1) []) (q3 : FnIs Try.prog 12 [.d (encDk db), .d (encRD LB)] [] (.int .i64 1) [])
    (hDy : FnIs Try.prog 13 [.d (encOpr (yN yk ysc yb)), .d (encDk d), .d (i6 N)] [] (tup2 (encDk da) (i6 ea)) []) (hRy : FnIs Try.prog 14 [.d (encOpr (yN yk ysc yb)), .d (encRD L)] [] (tup2 (encRD LA) (i6 ea)) [])
    (hRd : FnIs Try.prog 18 [.d (encDk da), .d (i6 s)] [] (tup2 (.arx 1 encU8 ([] : List Int)) (i6 0)) []) (hLast : FnIs Try.prog 20 [.d (encRD LA), .d (i6 s)] [] (.d (encV ⟨true, []⟩)) []) (hCon : FnIs Try.prog 19 [.d (.arx 1 encU8 ([] : List Int)), .d (i6 0), .d (encV ⟨true, []⟩)] [] (.int .i64 1) []) : FnIs Try.prog 4 [.d (encX x), .d (encOpr (yN yk ysc yb)), .d (encOpr z)] [] (.bool true) [] := by
  have hs0 : 0 ≤ ysc ∧ ysc ≤ 255 := hy.s
  have hws : IntKind.i64.wrap ysc = ysc := wrap_i64 (by omega) (by omega)
  skip
  refine fnIs_of tab_ok Try.func4 rfl rfl rfl ?_
  refine wc_seq ?_
  refine wc_region ?_
  refine reg_new (step_C tab_ok (fun K hk => hk)) rfl ?_
  refine reg_new (step_C tab_ok (fun K hk => hk)) rfl ?_
  refine reg_new (step_C tab_ok (fun K hk => hk)) rfl ?_
  refine reg_quiet rfl (step_C tab_ok (fun K hk => hk)) ?_
  refine reg_nil ?_
  refine seq_n ?_
  refine wc_seq ?_
  refine wc_region ?_
  refine reg_quiet rfl (load_box tab_ok rfl rfl rfl rfl) ?_
  refine reg_quiet rfl (call_r hOf rfl rfl (arg_e arg_nil) (.inl rfl) (fun _ => rfl)) ?_
  refine reg_new (step_C tab_ok (fun K hk => hk)) rfl ?_
  refine reg_store (store_row tab_ok rfl rfl rfl ⟨_, ⟨rfl, rfl, rfl⟩, rfl⟩ rfl) ?_
  refine reg_nil ?_
  refine seq_n ?_
  refine wc_seq ?_
  refine wc_region ?_
  refine reg_quiet rfl (step_C tab_ok (fun K hk => hk)) ?_
  refine reg_quiet rfl (load_box tab_ok rfl rfl ⟨_, rfl, rfl⟩ rfl) ?_
  refine reg_quiet rfl (append_n_e tab_ok rfl rfl rfl rfl) ?_
  refine reg_quiet rfl (step_C tab_ok (fun K hk => hk)) ?_
  refine reg_nil ?_
  refine seq_n ?_
  refine wc_seq ?_
  refine wc_region ?_
  refine reg_quiet rfl (step_C tab_ok (fun K hk => hk)) ?_
  refine reg_quiet rfl (step_C tab_ok (fun K hk => hk)) ?_
  refine reg_store (store_row tab_ok rfl rfl rfl ⟨_, ⟨_, ⟨_, ⟨rfl, rfl, rfl⟩, rfl⟩, rfl⟩, rfl⟩ rfl) ?_
  refine reg_nil ?_
  refine seq_n ?_
  refine wc_seq ?_
  refine wc_draw (by kernel_rfl) ?_
  refine dreg_q [4] [72] rfl (load_box tab_ok rfl rfl rfl rfl) ?_
  refine dreg_q [7] [112] rfl (load_box tab_ok rfl rfl rfl rfl) ?_
  refine dreg_q [3] [64] rfl (load_box tab_ok rfl rfl rfl rfl) ?_
  refine dreg_q [33] [] rfl (call_r hSz rfl rfl (arg_e arg_nil) (.inl rfl) (fun _ => rfl)) ?_
  refine dreg_q [31, 32, 34] [] rfl (call_r hDy rfl rfl (arg_yE rfl (arg_e (arg_e arg_nil))) (.inl rfl) (fun _ => rfl)) ?_
  refine dreg_q [35] [] rfl (step_C tab_ok (fun K hk => hk)) ?_
  refine dreg_q [30] [] rfl (step_C tab_ok (fun K hk => hk)) ?_
  refine dreg_q [30] [] rfl (step_C tab_ok (fun K hk => hk)) ?_
  refine dreg_w [] [] rfl (step_C tab_ok (fun K hk => hk)) ?_
  refine dreg_s [9, 36] [248] (store_row tab_ok rfl rfl rfl ⟨_, ⟨rfl, rfl, rfl⟩, rfl⟩ rfl) ?_
  refine dreg_q [37] [] rfl (step_C tab_ok (fun K hk => hk)) ?_
  refine dreg_end (by kernel_rfl) ?_
  refine seq_n ?_
  refine wc_seq ?_
  refine wc_draw (by kernel_rfl) ?_
  refine dreg_q [5] [80] rfl (load_box tab_ok rfl rfl rfl rfl) ?_
  refine dreg_q [7] [112] rfl (load_box tab_ok rfl rfl rfl rfl) ?_
  refine dreg_q [3] [64] rfl (load_box tab_ok rfl rfl rfl rfl) ?_
  refine dreg_q [41] [] rfl (call_r hSz rfl rfl (arg_e arg_nil) (.inl rfl) (fun _ => rfl)) ?_
  refine dreg_q [39, 40, 42] [] rfl (call_r hDz rfl rfl (arg_e (arg_e (arg_e arg_nil))) (.inl rfl) (fun _ => rfl)) ?_
  refine dreg_q [43] [] rfl (step_C tab_ok (fun K hk => hk)) ?_
  refine dreg_q [38] [] rfl (step_C tab_ok (fun K hk => hk)) ?_
  refine dreg_q [38] [] rfl (step_C tab_ok (fun K hk => hk)) ?_
  refine dreg_w [] [] rfl (step_C tab_ok (fun K hk => hk)) ?_
  refine dreg_s [11, 44] [336] (store_row tab_ok rfl rfl rfl ⟨_, ⟨rfl, rfl, rfl⟩, rfl⟩ rfl) ?_
  refine dreg_q [45] [] rfl (step_C tab_ok (fun K hk => hk)) ?_
  refine dreg_end (by kernel_rfl) ?_
  refine seq_n ?_
  refine wc_seq ?_
  refine wc_region ?_
  refine reg_quiet rfl (load_box tab_ok rfl rfl rfl rfl) ?_
  refine reg_quiet rfl (call_r hRef rfl rfl (arg_e arg_nil) (.inl rfl) (fun _ => rfl)) ?_
  refine reg_new (step_C tab_ok (fun K hk => hk)) rfl ?_
  refine reg_store (store_row tab_ok rfl rfl rfl ⟨_, ⟨rfl, rfl, rfl⟩, rfl⟩ rfl) ?_
  refine reg_nil ?_
  refine seq_n ?_
  refine wc_seq ?_
  refine wc_region ?_
  refine reg_quiet rfl (load_box tab_ok rfl rfl rfl rfl) ?_
  refine reg_quiet rfl (load_box tab_ok rfl rfl rfl rfl) ?_
  refine reg_quiet rfl (call_r hRy rfl rfl (arg_yE rfl (arg_e arg_nil)) (.inl rfl) (fun _ => rfl)) ?_
  refine reg_quiet rfl (step_C tab_ok (fun K hk => hk)) ?_
  refine reg_quiet rfl (step_C tab_ok (fun K hk => hk)) ?_
  refine reg_quiet rfl (step_C tab_ok (fun K hk => hk)) ?_
  refine reg_new (step_C tab_ok (fun K hk => hk)) rfl ?_
  refine reg_store (store_row tab_ok rfl rfl rfl ⟨_, ⟨rfl, rfl, rfl⟩, rfl⟩ rfl) ?_
  refine reg_quiet rfl (step_C tab_ok (fun K hk => hk)) ?_
  refine reg_nil ?_
  refine seq_n ?_
  refine wc_seq ?_
  refine wc_region ?_
  refine reg_quiet rfl (load_box tab_ok rfl rfl rfl rfl) ?_
  refine reg_quiet rfl (load_box tab_ok rfl rfl rfl rfl) ?_
  refine reg_quiet rfl (call_r hRz rfl rfl (arg_e (arg_e arg_nil)) (.inl rfl) (fun _ => rfl)) ?_
  refine reg_quiet rfl (step_C tab_ok (fun K hk => hk)) ?_
  refine reg_quiet rfl (step_C tab_ok (fun K hk => hk)) ?_
  refine reg_quiet rfl (step_C tab_ok (fun K hk => hk)) ?_
  refine reg_new (step_C tab_ok (fun K hk => hk)) rfl ?_
  refine reg_store (store_row tab_ok rfl rfl rfl ⟨_, ⟨rfl, rfl, rfl⟩, rfl⟩ rfl) ?_
  refine reg_quiet rfl (step_C tab_ok (fun K hk => hk)) ?_
  refine reg_nil ?_
  refine seq_n ?_
  refine wc_seq ?_
  refine wc_seq ?_
  refine wc_region ?_
  refine reg_quiet rfl (step_C tab_ok (fun K hk => hk)) ?_
  refine reg_nil ?_
  refine seq_n ?_
  refine wc_block ?_
  refine wc_inv (fun i : Nat => ⟨[(18, .int .i64 i), (8, .d (.sc nil_)), (3, .ptr 64 []), (4, .ptr 65 []), (7, .ptr 66 []), (9, .ptr 67 []), (11, .ptr 68 []), (13, .ptr 69 []), (14, .ptr 70 []), (16, .ptr 71 [])], [(64, some (.box 24 (.d (encX x)))), (65, some (.box 39 (.d (yE (yN yk ysc yb))))), (66, some (.box 27 (.d (encDk d)))), (67, some (.box 27 (.d (encDk da)))), (68, some (.box 27 (.d (encDk db)))), (69, some (.box 34 (.d (encRD L)))), (70, some (.box 34 (.d (encRD LA)))), (71, some (.box 34 (.d (encRD LB))))], 80, Try.f4.ntmps, 64⟩) (fun i => i ≤ 0) (fun i => 0 - i) 0 [(64, some 64), (65, some 72), (66, some 112), (67, some 248), (68, some 336), (69, some 376), (70, some 440), (71, some 512)] (Nat.zero_le _)
    (.of rfl rfl rfl rfl rfl ⟨⟨_, rfl, .refl _⟩, rfl, ⟨_, rfl, .refl _⟩, rfl, ⟨_, rfl, .refl _⟩, rfl, ⟨_, rfl, .refl _⟩, rfl, ⟨_, rfl, .refl _⟩, rfl, ⟨_, rfl, .refl _⟩, rfl, ⟨_, rfl, .refl _⟩, rfl, ⟨_, rfl, .refl _⟩, rfl, ⟨_, rfl, .refl _⟩, rfl, ⟨_, rfl, .refl _⟩, rfl, trivial⟩ ⟨⟨rfl, rfl, _, rfl, .refl _⟩, ⟨rfl, rfl, _, rfl, .refl _⟩, ⟨rfl, rfl, _, rfl, .refl _⟩, ⟨rfl, rfl, _, rfl, .refl _⟩, ⟨rfl, rfl, _, rfl, .refl _⟩, ⟨rfl, rfl, _, rfl, .refl _⟩, ⟨rfl, rfl, _, rfl, .refl _⟩, ⟨rfl, rfl, _, rfl, .refl _⟩, trivial⟩) ?_
  intro i hi
  obtain rfl : i = 0 := by omega
  refine wc_of ?_
  refine wc_seq ?_
  refine wc_seq ?_
  refine wc_region ?_
  refine reg_quiet rfl (step_C tab_ok (fun K hk => hk)) ?_
  refine reg_quiet rfl (step_C tab_ok (fun K hk => hk)) ?_
  refine reg_quiet rfl (len_nil tab_ok rfl rfl) ?_
  refine reg_quiet rfl (step_C tab_ok (fun K hk => hk)) ?_
  refine reg_nil ?_
  refine seq_n ?_
  refine wc_false rfl rfl ?_
  refine wc_exit ?_
  refine seq_x ?_
  refine loop_x ?_
  refine blk_x ?_
  refine seq_n ?_
  refine wc_seq ?_
  refine wc_draw (by kernel_rfl) ?_
  refine dreg_q [4] [65] rfl (step_C tab_ok (fun K hk => hk)) ?_
  refine dreg_q [72] [65] rfl (load_box tab_ok rfl rfl ⟨_, rfl, rfl⟩ rfl) ?_
  refine dreg_q [73] [] rfl (conv_int (m := ysc) tab_ok rfl rfl rfl hws) ?_
  refine dreg_q [3] [64] rfl (load_box tab_ok rfl rfl rfl rfl) ?_
  refine dreg_q [75] [] rfl (call_r hSz rfl rfl (arg_e arg_nil) (.inl rfl) (fun _ => rfl)) ?_
  refine dreg_q [74, 76] [] rfl (rem_to tab_ok rfl rfl (by omega) hse) ?_
  refine dreg_q [77] [] rfl (step_C tab_ok (fun K hk => hk)) ?_
  refine dreg_end (by kernel_rfl) ?_
  refine seq_n ?_
  refine wc_seq ?_
  refine wc_region ?_
  refine reg_quiet rfl (load_box tab_ok rfl rfl rfl rfl) ?_
  refine reg_quiet rfl (step_C tab_ok (fun K hk => hk)) ?_
  refine reg_quiet rfl (call_r hRd rfl rfl (arg_e (arg_e arg_nil)) (.inl rfl) (fun _ => rfl)) ?_
  refine reg_quiet rfl (step_C tab_ok (fun K hk => hk)) ?_
  refine reg_quiet rfl (step_C tab_ok (fun K hk => hk)) ?_
  refine reg_quiet rfl (step_C tab_ok (fun K hk => hk)) ?_
  refine reg_quiet rfl (step_C tab_ok (fun K hk => hk)) ?_
  refine reg_quiet rfl (step_C tab_ok (fun K hk => hk)) ?_
  refine reg_nil ?_
  refine seq_n ?_
  refine wc_seq ?_
  refine wc_seq ?_
  refine wc_region ?_
  refine reg_quiet rfl (step_C tab_ok (fun K hk => hk)) ?_
  refine reg_quiet rfl (step_C tab_ok (fun K hk => hk)) ?_
  refine reg_quiet rfl (load_box tab_ok rfl rfl rfl rfl) ?_
  refine reg_quiet rfl (step_C tab_ok (fun K hk => hk)) ?_
  refine reg_quiet rfl (call_r hLast rfl rfl (arg_e (arg_e arg_nil)) (.inl rfl) (fun _ => rfl)) ?_
  refine reg_quiet rfl (call_r hCon rfl rfl (arg_e (arg_e (arg_e arg_nil))) (.inl rfl) (fun _ => rfl)) ?_
  refine reg_quiet rfl (step_C tab_ok (fun K hk => hk)) ?_
  refine reg_nil ?_
  refine seq_n ?_
  refine wc_false rfl rfl ?_
  refine wc_skip ?_
  refine seq_n ?_
  refine wc_seq ?_
  refine wc_seq ?_
  refine wc_region ?_
  refine reg_quiet rfl (step_C tab_ok (fun K hk => hk)) ?_
  refine reg_nil ?_
  refine seq_n ?_
  refine wc_block ?_
  refine wc_inv (fun j : Nat => ⟨[(22, .int .i64 j), (20, .d (.arx 1 encU8 ([] : List Int))), (7, .ptr 66 []), (9, .ptr 67 []), (11, .ptr 68 []), (13, .ptr 69 []), (14, .ptr 70 []), (16, .ptr 71 [])], [(66, some (.box 27 (.d (encDk d)))), (67, some (.box 27 (.d (encDk da)))), (68, some (.box 27 (.d (encDk db)))), (69, some (.box 34 (.d (encRD L)))), (70, some (.box 34 (.d (encRD LA)))), (71, some (.box 34 (.d (encRD LB))))], 80, Try.f4.ntmps, 64⟩) (fun j => j ≤ 0) (fun j => 0 - j) 0 [(66, some 66), (67, some 67), (68, some 68), (69, some 69), (70, some 70), (71, some 71)] (Nat.zero_le _)
    (.of rfl rfl rfl rfl rfl ⟨⟨_, rfl, .refl _⟩, rfl, ⟨_, rfl, .refl _⟩, rfl, ⟨_, rfl, .refl _⟩, rfl, ⟨_, rfl, .refl _⟩, rfl, ⟨_, rfl, .refl _⟩, rfl, ⟨_, rfl, .refl _⟩, rfl, ⟨_, rfl, .refl _⟩, rfl, ⟨_, rfl, .refl _⟩, rfl, trivial⟩ ⟨⟨rfl, rfl, _, rfl, .refl _⟩, ⟨rfl, rfl, _, rfl, .refl _⟩, ⟨rfl, rfl, _, rfl, .refl _⟩, ⟨rfl, rfl, _, rfl, .refl _⟩, ⟨rfl, rfl, _, rfl, .refl _⟩, ⟨rfl, rfl, _, rfl, .refl _⟩, trivial⟩) ?_
  intro j hj
  obtain rfl : j = 0 := by omega
  refine wc_of ?_
  refine wc_seq ?_
  refine wc_seq ?_
  refine wc_region ?_
  refine reg_quiet rfl (step_C tab_ok (fun K hk => hk)) ?_
  refine reg_quiet rfl (step_C tab_ok (fun K hk => hk)) ?_
  refine reg_quiet rfl (len_arx tab_ok rfl rfl) ?_
  refine reg_quiet rfl (step_C tab_ok (fun K hk => hk)) ?_
  refine reg_nil ?_
  refine seq_n ?_
  refine wc_false rfl rfl ?_
  refine wc_exit ?_
  refine seq_x ?_
  refine loop_x ?_
  refine blk_x ?_
  refine seq_n ?_
  refine wc_seq ?_
  refine wc_draw (by kernel_rfl) ?_
  refine dreg_q [7] [66] rfl (load_box tab_ok rfl rfl rfl rfl) ?_
  refine dreg_q [13] [69] rfl (load_box tab_ok rfl rfl rfl rfl) ?_
  refine dreg_q [103, 104] [] rfl (call_r q1 rfl rfl (arg_e (arg_e arg_nil)) (.inl rfl) (fun _ => rfl)) ?_
  refine dreg_q [9] [67] rfl (load_box tab_ok rfl rfl rfl rfl) ?_
  refine dreg_q [14] [70] rfl (load_box tab_ok rfl rfl rfl rfl) ?_
  refine dreg_q [106, 107] [] rfl (call_r q2 rfl rfl (arg_e (arg_e arg_nil)) (.inl rfl) (fun _ => rfl)) ?_
  refine dreg_q [105, 108] [] rfl (mul_int (m := 1) tab_ok rfl rfl rfl) ?_
  refine dreg_q [11] [68] rfl (load_box tab_ok rfl rfl rfl rfl) ?_
  refine dreg_q [16] [71] rfl (load_box tab_ok rfl rfl rfl rfl) ?_
  refine dreg_q [110, 111] [] rfl (call_r q3 rfl rfl (arg_e (arg_e arg_nil)) (.inl rfl) (fun _ => rfl)) ?_
  refine dreg_q [109, 112] [] rfl (mul_int (m := 1) tab_ok rfl rfl rfl) ?_
  refine dreg_q [113] [] rfl (step_C tab_ok (fun K hk => hk)) ?_
  refine dreg_q [114] [] rfl (step_C tab_ok (fun K hk => hk)) ?_
  refine dreg_onq [115] [] rfl rfl rfl rfl (call_r lives_is rfl rfl arg_nil (.inl rfl) (fun _ => rfl)) ?_
  refine dreg_q [115, 116] [] rfl (pick_T tab_ok rfl rfl rfl) ?_
  refine dreg_q [117] [] rfl (step_C tab_ok (fun K hk => hk)) ?_
  refine dreg_end (by kernel_rfl) ?_
  refine seq_n ?_
  refine wc_ret ?_
  exact ⟨trivial, [], .of rfl rfl rfl rfl rfl ⟨⟨_, rfl, AVLe.of_eq rfl⟩, rfl, trivial⟩ trivial⟩
theorem val_en (x : Int × List Opr) (yk ysc yb : Int) (z : Opr) (hy : OpOk (yN yk ysc yb)) (hz : OpOk z) (N s : Nat) (hNb : 1 ≤ N ∧ N ≤ 130) (hse : ysc.tmod (N : Int) = s) (d da db : Dk) (L LA LB : List Vs) (ea eb : Int)
    (hSz : FnIs Try.prog 10 [.d (encX x)] [] (.int .i64 N) []) (hOf : FnIs Try.prog 16 [.d (encX x)] [] (.d (encDk d)) []) (hRef : FnIs Try.prog 17 [.d (encX x)] [] (.d (encRD L)) [])
    (hDz : FnIs Try.prog 13 [.d (encOpr z), .d (encDk d), .d (i6 N)] [] (tup2 (encDk db) (i6 eb)) []) (hRz : FnIs Try.prog 14 [.d (encOpr z), .d (encRD L)] [] (tup2 (encRD LB) (i6 eb)) [])
    (q1 : FnIs Try.prog 12 [.d (encDk d), .d (encRD L)] [] (.int .i64 1) []) (q2 : FnIs Try.prog 12 [.d (encDk da), .d (encRD LA)] [] (.int .i64 1) []) (q3 : FnIs Try.prog 12 [.d (encDk db), .d (encRD LB)] [] (.int .i64 1) [])
    (hDy : FnIs Try.prog 13 [.d (encOpr (yN yk ysc yb)), .d (encDk d), .d (i6 N)] [] (tup2 (encDk da) (i6 ea)) []) (hRy : FnIs Try.prog 14 [.d (encOpr (yN yk ysc yb)), .d (encRD L)] [] (tup2 (encRD LA) (i6 ea)) [])
    (vb : List Int) (hRd : FnIs Try.prog 18 [.d (encDk da), .d (i6 s)] [] (tup2 (.sc nil_) (i6 11)) []) (hLast : FnIs Try.prog 20 [.d (encRD LA), .d (i6 s)] [] (.d (encV ⟨false, vb⟩)) []) (hCon : FnIs Try.prog 19 [.d (.sc nil_), .d (i6 11), .d (encV ⟨false, vb⟩)] [] (.int .i64 1) []) : FnIs Try.prog 4 [.d (encX x), .d (encOpr (yN yk ysc yb)), .d (encOpr z)] [] (.bool true) [] := by
  have hs0 : 0 ≤ ysc ∧ ysc ≤ 255 := hy.s
  have hws : IntKind.i64.wrap ysc = ysc := wrap_i64 (by omega) (by omega)
  skip
  refine fnIs_of tab_ok Try.func4 rfl rfl rfl ?_
  refine wc_seq ?_
  refine wc_region ?_
  refine reg_new (step_C tab_ok (fun K hk => hk)) rfl ?_
  refine reg_new (step_C tab_ok (fun K hk => hk)) rfl ?_
  refine reg_new (step_C tab_ok (fun K hk => hk)) rfl ?_
  refine reg_quiet rfl (step_C tab_ok (fun K hk => hk)) ?_
  refine reg_nil ?_
  refine seq_n ?_
  refine wc_seq ?_
  refine wc_region ?_
  refine reg_quiet rfl (load_box tab_ok rfl rfl rfl rfl) ?_
  refine reg_quiet rfl (call_r hOf rfl rfl (arg_e arg_nil) (.inl rfl) (fun _ => rfl)) ?_
  refine reg_new (step_C tab_ok (fun K hk => hk)) rfl ?_
  refine reg_store (store_row tab_ok rfl rfl rfl ⟨_, ⟨rfl, rfl, rfl⟩, rfl⟩ rfl) ?_
  refine reg_nil ?_
  refine seq_n ?_
  refine wc_seq ?_
  refine wc_region ?_
  refine reg_quiet rfl (step_C tab_ok (fun K hk => hk)) ?_
  refine reg_quiet rfl (load_box tab_ok rfl rfl ⟨_, rfl, rfl⟩ rfl) ?_
  refine reg_quiet rfl (append_n_e tab_ok rfl rfl rfl rfl) ?_
  refine reg_quiet rfl (step_C tab_ok (fun K hk => hk)) ?_
  refine reg_nil ?_
  refine seq_n ?_
  refine wc_seq ?_
  refine wc_region ?_
  refine reg_quiet rfl (step_C tab_ok (fun K hk => hk)) ?_
  refine reg_quiet rfl (step_C tab_ok (fun K hk => hk)) ?_
  refine reg_store (store_row tab_ok rfl rfl rfl ⟨_, ⟨_, ⟨_, ⟨rfl, rfl, rfl⟩, rfl⟩, rfl⟩, rfl⟩ rfl) ?_
  refine reg_nil ?_
  refine seq_n ?_
  refine wc_seq ?_
  refine wc_draw (by kernel_rfl) ?_
  refine dreg_q [4] [72] rfl (load_box tab_ok rfl rfl rfl rfl) ?_
  refine dreg_q [7] [112] rfl (load_box tab_ok rfl rfl rfl rfl) ?_
  refine dreg_q [3] [64] rfl (load_box tab_ok rfl rfl rfl rfl) ?_
  refine dreg_q [33] [] rfl (call_r hSz rfl rfl (arg_e arg_nil) (.inl rfl) (fun _ => rfl)) ?_
  refine dreg_q [31, 32, 34] [] rfl (call_r hDy rfl rfl (arg_yE rfl (arg_e (arg_e arg_nil))) (.inl rfl) (fun _ => rfl)) ?_
  refine dreg_q [35] [] rfl (step_C tab_ok (fun K hk => hk)) ?_
  refine dreg_q [30] [] rfl (step_C tab_ok (fun K hk => hk)) ?_
  refine dreg_q [30] [] rfl (step_C tab_ok (fun K hk => hk)) ?_
  refine dreg_w [] [] rfl (step_C tab_ok (fun K hk => hk)) ?_
  refine dreg_s [9, 36] [248] (store_row tab_ok rfl rfl rfl ⟨_, ⟨rfl, rfl, rfl⟩, rfl⟩ rfl) ?_
  refine dreg_q [37] [] rfl (step_C tab_ok (fun K hk => hk)) ?_
  refine dreg_end (by kernel_rfl) ?_
  refine seq_n ?_
  refine wc_seq ?_
  refine wc_draw (by kernel_rfl) ?_
  refine dreg_q [5] [80] rfl (load_box tab_ok rfl rfl rfl rfl) ?_
  refine dreg_q [7] [112] rfl (load_box tab_ok rfl rfl rfl rfl) ?_
  refine dreg_q [3] [64] rfl (load_box tab_ok rfl rfl rfl rfl) ?_
  refine dreg_q [41] [] rfl (call_r hSz rfl rfl (arg_e arg_nil) (.inl rfl) (fun _ => rfl)) ?_
  refine dreg_q [39, 40, 42] [] rfl (call_r hDz rfl rfl (arg_e (arg_e (arg_e arg_nil))) (.inl rfl) (fun _ => rfl)) ?_
  refine dreg_q [43] [] rfl (step_C tab_ok (fun K hk => hk)) ?_
  refine dreg_q [38] [] rfl (step_C tab_ok (fun K hk => hk)) ?_
  refine dreg_q [38] [] rfl (step_C tab_ok (fun K hk => hk)) ?_
  refine dreg_w [] [] rfl (step_C tab_ok (fun K hk => hk)) ?_
  refine dreg_s [11, 44] [336] (store_row tab_ok rfl rfl rfl ⟨_, ⟨rfl, rfl, rfl⟩, rfl⟩ rfl) ?_
  refine dreg_q [45] [] rfl (step_C tab_ok (fun K hk => hk)) ?_
  refine dreg_end (by kernel_rfl) ?_
  refine seq_n ?_
  refine wc_seq ?_
  refine wc_region ?_
  refine reg_quiet rfl (load_box tab_ok rfl rfl rfl rfl) ?_
  refine reg_quiet rfl (call_r hRef rfl rfl (arg_e arg_nil) (.inl rfl) (fun _ => rfl)) ?_
  refine reg_new (step_C tab_ok (fun K hk => hk)) rfl ?_
  refine reg_store (store_row tab_ok rfl rfl rfl ⟨_, ⟨rfl, rfl, rfl⟩, rfl⟩ rfl) ?_
  refine reg_nil ?_
  refine seq_n ?_
  refine wc_seq ?_
  refine wc_region ?_
  refine reg_quiet rfl (load_box tab_ok rfl rfl rfl rfl) ?_
  refine reg_quiet rfl (load_box tab_ok rfl rfl rfl rfl) ?_
  refine reg_quiet rfl (call_r hRy rfl rfl (arg_yE rfl (arg_e arg_nil)) (.inl rfl) (fun _ => rfl)) ?_
  refine reg_quiet rfl (step_C tab_ok (fun K hk => hk)) ?_
  refine reg_quiet rfl (step_C tab_ok (fun K hk => hk)) ?_
  refine reg_quiet rfl (step_C tab_ok (fun K hk => hk)) ?_
  refine reg_new (step_C tab_ok (fun K hk => hk)) rfl ?_
  refine reg_store (store_row tab_ok rfl rfl rfl ⟨_, ⟨rfl, rfl, rfl⟩, rfl⟩ rfl) ?_
  refine reg_quiet rfl (step_C tab_ok (fun K hk => hk)) ?_
  refine reg_nil ?_
  refine seq_n ?_
  refine wc_seq ?_
  refine wc_region ?_
  refine reg_quiet rfl (load_box tab_ok rfl rfl rfl rfl) ?_
  refine reg_quiet rfl (load_box tab_ok rfl rfl rfl rfl) ?_
  refine reg_quiet rfl (call_r hRz rfl rfl (arg_e (arg_e arg_nil)) (.inl rfl) (fun _ => rfl)) ?_
  refine reg_quiet rfl (step_C tab_ok (fun K hk => hk)) ?_
  refine reg_quiet rfl (step_C tab_ok (fun K hk => hk)) ?_
  refine reg_quiet rfl (step_C tab_ok (fun K hk => hk)) ?_
  refine reg_new (step_C tab_ok (fun K hk => hk)) rfl ?_
  refine reg_store (store_row tab_ok rfl rfl rfl ⟨_, ⟨rfl, rfl, rfl⟩, rfl⟩ rfl) ?_
  refine reg_quiet rfl (step_C tab_ok (fun K hk => hk)) ?_
  refine reg_nil ?_
  refine seq_n ?_
  refine wc_seq ?_
  refine wc_seq ?_
  refine wc_region ?_
  refine reg_quiet rfl (step_C tab_ok (fun K hk => hk)) ?_
  refine reg_nil ?_
  refine seq_n ?_
  refine wc_block ?_
  refine wc_inv (fun i : Nat => ⟨[(18, .int .i64 i), (8, .d (.sc nil_)), (3, .ptr 64 []), (4, .ptr 65 []), (7, .ptr 66 []), (9, .ptr 67 []), (11, .ptr 68 []), (13, .ptr 69 []), (14, .ptr 70 []), (16, .ptr 71 [])], [(64, some (.box 24 (.d (encX x)))), (65, some (.box 39 (.d (yE (yN yk ysc yb))))), (66, some (.box 27 (.d (encDk d)))), (67, some (.box 27 (.d (encDk da)))), (68, some (.box 27 (.d (encDk db)))), (69, some (.box 34 (.d (encRD L)))), (70, some (.box 34 (.d (encRD LA)))), (71, some (.box 34 (.d (encRD LB))))], 80, Try.f4.ntmps, 64⟩) (fun i => i ≤ 0) (fun i => 0 - i) 0 [(64, some 64), (65, some 72), (66, some 112), (67, some 248), (68, some 336), (69, some 376), (70, some 440), (71, some 512)] (Nat.zero_le _)
    (.of rfl rfl rfl rfl rfl ⟨⟨_, rfl, .refl _⟩, rfl, ⟨_, rfl, .refl _⟩, rfl, ⟨_, rfl, .refl _⟩, rfl, ⟨_, rfl, .refl _⟩, rfl, ⟨_, rfl, .refl _⟩, rfl, ⟨_, rfl, .refl _⟩, rfl, ⟨_, rfl, .refl _⟩, rfl, ⟨_, rfl, .refl _⟩, rfl, ⟨_, rfl, .refl _⟩, rfl, ⟨_, rfl, .refl _⟩, rfl, trivial⟩ ⟨⟨rfl, rfl, _, rfl, .refl _⟩, ⟨rfl, rfl, _, rfl, .refl _⟩, ⟨rfl, rfl, _, rfl, .refl _⟩, ⟨rfl, rfl, _, rfl, .refl _⟩, ⟨rfl, rfl, _, rfl, .refl _⟩, ⟨rfl, rfl, _, rfl, .refl _⟩, ⟨rfl, rfl, _, rfl, .refl _⟩, ⟨rfl, rfl, _, rfl, .refl _⟩, trivial⟩) ?_
  intro i hi
  obtain rfl : i = 0 := by omega
  refine wc_of ?_
  refine wc_seq ?_
  refine wc_seq ?_
  refine wc_region ?_
  refine reg_quiet rfl (step_C tab_ok (fun K hk => hk)) ?_
  refine reg_quiet rfl (step_C tab_ok (fun K hk => hk)) ?_
  refine reg_quiet rfl (len_nil tab_ok rfl rfl) ?_
  refine reg_quiet rfl (step_C tab_ok (fun K hk => hk)) ?_
  refine reg_nil ?_
  refine seq_n ?_
  refine wc_false rfl rfl ?_
  refine wc_exit ?_
  refine seq_x ?_
  refine loop_x ?_
  refine blk_x ?_
  refine seq_n ?_
  refine wc_seq ?_
  refine wc_draw (by kernel_rfl) ?_
  refine dreg_q [4] [65] rfl (step_C tab_ok (fun K hk => hk)) ?_
  refine dreg_q [72] [65] rfl (load_box tab_ok rfl rfl ⟨_, rfl, rfl⟩ rfl) ?_
  refine dreg_q [73] [] rfl (conv_int (m := ysc) tab_ok rfl rfl rfl hws) ?_
  refine dreg_q [3] [64] rfl (load_box tab_ok rfl rfl rfl rfl) ?_
  refine dreg_q [75] [] rfl (call_r hSz rfl rfl (arg_e arg_nil) (.inl rfl) (fun _ => rfl)) ?_
  refine dreg_q [74, 76] [] rfl (rem_to tab_ok rfl rfl (by omega) hse) ?_
  refine dreg_q [77] [] rfl (step_C tab_ok (fun K hk => hk)) ?_
  refine dreg_end (by kernel_rfl) ?_
  refine seq_n ?_
  refine wc_seq ?_
  refine wc_region ?_
  refine reg_quiet rfl (load_box tab_ok rfl rfl rfl rfl) ?_
  refine reg_quiet rfl (step_C tab_ok (fun K hk => hk)) ?_
  refine reg_quiet rfl (call_r hRd rfl rfl (arg_e (arg_e arg_nil)) (.inl rfl) (fun _ => rfl)) ?_
  refine reg_quiet rfl (step_C tab_ok (fun K hk => hk)) ?_
  refine reg_quiet rfl (step_C tab_ok (fun K hk => hk)) ?_
  refine reg_quiet rfl (step_C tab_ok (fun K hk => hk)) ?_
  refine reg_quiet rfl (step_C tab_ok (fun K hk => hk)) ?_
  refine reg_quiet rfl (step_C tab_ok (fun K hk => hk)) ?_
  refine reg_nil ?_
  refine seq_n ?_
  refine wc_seq ?_
  refine wc_seq ?_
  refine wc_region ?_
  refine reg_quiet rfl (step_C tab_ok (fun K hk => hk)) ?_
  refine reg_quiet rfl (step_C tab_ok (fun K hk => hk)) ?_
  refine reg_quiet rfl (load_box tab_ok rfl rfl rfl rfl) ?_
  refine reg_quiet rfl (step_C tab_ok (fun K hk => hk)) ?_
  refine reg_quiet rfl (call_r hLast rfl rfl (arg_e (arg_e arg_nil)) (.inl rfl) (fun _ => rfl)) ?_
  refine reg_quiet rfl (call_r hCon rfl rfl (arg_e (arg_e (arg_e arg_nil))) (.inl rfl) (fun _ => rfl)) ?_
  refine reg_quiet rfl (step_C tab_ok (fun K hk => hk)) ?_
  refine reg_nil ?_
  refine seq_n ?_
  refine wc_false rfl rfl ?_
  refine wc_skip ?_
  refine seq_n ?_
  refine wc_seq ?_
  refine wc_seq ?_
  refine wc_region ?_
  refine reg_quiet rfl (step_C tab_ok (fun K hk => hk)) ?_
  refine reg_nil ?_
  refine seq_n ?_
  refine wc_block ?_
  refine wc_inv (fun j : Nat => ⟨[(22, .int .i64 j), (20, .d (.sc nil_)), (7, .ptr 66 []), (9, .ptr 67 []), (11, .ptr 68 []), (13, .ptr 69 []), (14, .ptr 70 []), (16, .ptr 71 [])], [(66, some (.box 27 (.d (encDk d)))), (67, some (.box 27 (.d (encDk da)))), (68, some (.box 27 (.d (encDk db)))), (69, some (.box 34 (.d (encRD L)))), (70, some (.box 34 (.d (encRD LA)))), (71, some (.box 34 (.d (encRD LB))))], 80, Try.f4.ntmps, 64⟩) (fun j => j ≤ 0) (fun j => 0 - j) 0 [(66, some 66), (67, some 67), (68, some 68), (69, some 69), (70, some 70), (71, some 71)] (Nat.zero_le _)
    (.of rfl rfl rfl rfl rfl ⟨⟨_, rfl, .refl _⟩, rfl, ⟨_, rfl, .refl _⟩, rfl, ⟨_, rfl, .refl _⟩, rfl, ⟨_, rfl, .refl _⟩, rfl, ⟨_, rfl, .refl _⟩, rfl, ⟨_, rfl, .refl _⟩, rfl, ⟨_, rfl, .refl _⟩, rfl, ⟨_, rfl, .refl _⟩, rfl, trivial⟩ ⟨⟨rfl, rfl, _, rfl, .refl _⟩, ⟨rfl, rfl, _, rfl, .refl _⟩, ⟨rfl, rfl, _, rfl, .refl _⟩, ⟨rfl, rfl, _, rfl, .refl _⟩, ⟨rfl, rfl, _, rfl, .refl _⟩, ⟨rfl, rfl, _, rfl, .refl _⟩, trivial⟩) ?_
  intro j hj
  obtain rfl : j = 0 := by omega
  refine wc_of ?_
  refine wc_seq ?_
  refine wc_seq ?_
  refine wc_region ?_
  refine reg_quiet rfl (step_C tab_ok (fun K hk => hk)) ?_
  refine reg_quiet rfl (step_C tab_ok (fun K hk => hk)) ?_
  refine reg_quiet rfl (len_nil tab_ok rfl rfl) ?_
  refine reg_quiet rfl (step_C tab_ok (fun K hk => hk)) ?_
  refine reg_nil ?_
  refine seq_n ?_
  refine wc_false rfl rfl ?_
  refine wc_exit ?_
  refine seq_x ?_
  refine loop_x ?_
  refine blk_x ?_
  refine seq_n ?_
  refine wc_seq ?_
  refine wc_draw (by kernel_rfl) ?_
  refine dreg_q [7] [66] rfl (load_box tab_ok rfl rfl rfl rfl) ?_
  refine dreg_q [13] [69] rfl (load_box tab_ok rfl rfl rfl rfl) ?_
  refine dreg_q [103, 104] [] rfl (call_r q1 rfl rfl (arg_e (arg_e arg_nil)) (.inl rfl) (fun _ => rfl)) ?_
  refine dreg_q [9] [67] rfl (load_box tab_ok rfl rfl rfl rfl) ?_
  refine dreg_q [14] [70] rfl (load_box tab_ok rfl rfl rfl rfl) ?_
  refine dreg_q [106, 107] [] rfl (call_r q2 rfl rfl (arg_e (arg_e arg_nil)) (.inl rfl) (fun _ => rfl)) ?_
  refine dreg_q [105, 108] [] rfl (mul_int (m := 1) tab_ok rfl rfl rfl) ?_
  refine dreg_q [11] [68] rfl (load_box tab_ok rfl rfl rfl rfl) ?_
  refine dreg_q [16] [71] rfl (load_box tab_ok rfl rfl rfl rfl) ?_
  refine dreg_q [110, 111] [] rfl (call_r q3 rfl rfl (arg_e (arg_e arg_nil)) (.inl rfl) (fun _ => rfl)) ?_
  refine dreg_q [109, 112] [] rfl (mul_int (m := 1) tab_ok rfl rfl rfl) ?_
  refine dreg_q [113] [] rfl (step_C tab_ok (fun K hk => hk)) ?_
  refine dreg_q [114] [] rfl (step_C tab_ok (fun K hk => hk)) ?_
  refine dreg_onq [115] [] rfl rfl rfl rfl (call_r lives_is rfl rfl arg_nil (.inl rfl) (fun _ => rfl)) ?_
  refine dreg_q [115, 116] [] rfl (pick_T tab_ok rfl rfl rfl) ?_
  refine dreg_q [117] [] rfl (step_C tab_ok (fun K hk => hk)) ?_
  refine dreg_end (by kernel_rfl) ?_
  refine seq_n ?_
  refine wc_ret ?_
  exact ⟨trivial, [], .of rfl rfl rfl rfl rfl ⟨⟨_, rfl, AVLe.of_eq rfl⟩, rfl, trivial⟩ trivial⟩
theorem val_no (x : Int × List Opr) (y z : Opr) (hy : OpOk y) (hz : OpOk z) (N s : Nat) (hNb : 1 ≤ N ∧ N ≤ 130) (hse : y.sector.tmod (N : Int) = s) (d da db : Dk) (L LA LB : List Vs) (ea eb : Int)
    (hSz : FnIs Try.prog 10 [.d (encX x)] [] (.int .i64 N) []) (hOf : FnIs Try.prog 16 [.d (encX x)] [] (.d (encDk d)) []) (hRef : FnIs Try.prog 17 [.d (encX x)] [] (.d (encRD L)) [])
    (hDz : FnIs Try.prog 13 [.d (encOpr z), .d (encDk d), .d (i6 N)] [] (tup2 (encDk db) (i6 eb)) []) (hRz : FnIs Try.prog 14 [.d (encOpr z), .d (encRD L)] [] (tup2 (encRD LB) (i6 eb)) [])
    (q1 : FnIs Try.prog 12 [.d (encDk d), .d (encRD L)] [] (.int .i64 1) []) (q2 : FnIs Try.prog 12 [.d (encDk da), .d (encRD LA)] [] (.int .i64 1) []) (q3 : FnIs Try.prog 12 [.d (encDk db), .d (encRD LB)] [] (.int .i64 1) [])
    (hp : 0 < y.bytes.length) (hlen : y.bytes.length ≤ maxLen) (hl2 : y.bytes.length ≤ 140737488355328) (hbb : y.bytes.length * r5.bytes ≤ 140737488355328) (hbr : ∀ c ∈ y.bytes, True) (hDy : FnIs Try.prog 13 [yO y y.bytes.length, .d (encDk d), .d (i6 N)] [(0, rowU false y.bytes)] (tup2 (encDk da) (i6 ea)) [(0, rowU false y.bytes)]) (hRy : FnIs Try.prog 14 [yO y y.bytes.length, .d (encRD L)] [(0, rowU false y.bytes)] (tup2 (encRD LA) (i6 ea)) [(0, rowU false y.bytes)])
    (b : List Int) (hpb : 0 < b.length) (hlb : b.length ≤ 1048576) (hRd : FnIs Try.prog 18 [.d (encDk da), .d (i6 s)] [] (.tup (.acons (.own 64 0 b.length 1 (some b.length)) (.acons (.int .i64 0) .anil))) [(64, rowU false b)]) (hLast : FnIs Try.prog 20 [.d (encRD LA), .d (i6 s)] [] (.d (encV ⟨true, b⟩)) []) : FnIs Try.prog 4 [.d (encX x), .d (encOpr y), .d (encOpr z)] [] (.bool true) [] := by
  have hs0 : 0 ≤ y.sector ∧ y.sector ≤ 255 := hy.s
  have hws : IntKind.i64.wrap y.sector = y.sector := wrap_i64 (by omega) (by omega)
  skip
  refine fnIs_of tab_ok Try.func4 rfl rfl rfl ?_
  refine wc_seq ?_
  refine wc_region ?_
  refine reg_new (step_C tab_ok (fun K hk => hk)) rfl ?_
  refine reg_new (step_C tab_ok (fun K hk => hk)) rfl ?_
  refine reg_new (step_C tab_ok (fun K hk => hk)) rfl ?_
  refine reg_quiet rfl (step_C tab_ok (fun K hk => hk)) ?_
  refine reg_nil ?_
  refine seq_n ?_
  refine wc_seq ?_
  refine wc_region ?_
  refine reg_quiet rfl (load_box tab_ok rfl rfl rfl rfl) ?_
  refine reg_quiet rfl (call_r hOf rfl rfl (arg_e arg_nil) (.inl rfl) (fun _ => rfl)) ?_
  refine reg_new (step_C tab_ok (fun K hk => hk)) rfl ?_
  refine reg_store (store_row tab_ok rfl rfl rfl ⟨_, ⟨rfl, rfl, rfl⟩, rfl⟩ rfl) ?_
  refine reg_nil ?_
  refine seq_n ?_
  refine wc_seq ?_
  refine wc_region ?_
  refine reg_quiet rfl (step_C tab_ok (fun K hk => hk)) ?_
  refine reg_quiet rfl (load_box tab_ok rfl rfl ⟨_, rfl, rfl⟩ rfl) ?_
  refine reg_new (append_empty (s := 1) (enc := encU8) (ys := y.bytes) tab_ok rfl rfl rfl rfl (.inr rfl) hp hlen hbb (src_arr (by decide) rfl hp)) rfl ?_
  refine reg_quiet rfl (step_C tab_ok (fun K hk => hk)) ?_
  refine reg_nil ?_
  refine seq_n ?_
  refine wc_seq ?_
  refine wc_region ?_
  refine reg_quiet rfl (step_C tab_ok (fun K hk => hk)) ?_
  refine reg_quiet rfl (step_C tab_ok (fun K hk => hk)) ?_
  refine reg_store (store_row tab_ok rfl rfl rfl ⟨_, ⟨_, ⟨rfl, rfl, rfl⟩, rfl⟩, rfl⟩ rfl) ?_
  refine reg_nil ?_
  refine seq_n ?_
  refine wc_seq ?_
  refine wc_draw (by kernel_rfl) ?_
  refine dreg_q [4] [72, 144] rfl (load_box tab_ok rfl rfl rfl rfl) ?_
  refine dreg_q [7] [112] rfl (load_box tab_ok rfl rfl rfl rfl) ?_
  refine dreg_q [3] [64] rfl (load_box tab_ok rfl rfl rfl rfl) ?_
  refine dreg_q [33] [] rfl (call_r hSz rfl rfl (arg_e arg_nil) (.inl rfl) (fun _ => rfl)) ?_
  refine dreg_w2 [31, 32, 34] [144] rfl (call_h [(0, some 144)] hDy rfl rfl rfl (arg_yO rfl rfl (arg_e (arg_e arg_nil))) ⟨⟨rfl, rfl, _, _, rfl, rfl, .refl _⟩, trivial⟩ rfl rfl (.inl rfl) rfl rfl) ?_
  refine dreg_q [35] [] rfl (step_C tab_ok (fun K hk => hk)) ?_
  refine dreg_q [30] [] rfl (step_C tab_ok (fun K hk => hk)) ?_
  refine dreg_q [30] [] rfl (step_C tab_ok (fun K hk => hk)) ?_
  refine dreg_w [] [] rfl (step_C tab_ok (fun K hk => hk)) ?_
  refine dreg_s [9, 36] [248] (store_row tab_ok rfl rfl rfl ⟨_, ⟨rfl, rfl, rfl⟩, rfl⟩ rfl) ?_
  refine dreg_q [37] [] rfl (step_C tab_ok (fun K hk => hk)) ?_
  refine dreg_end (by kernel_rfl) ?_
  refine seq_n ?_
  refine wc_seq ?_
  refine wc_draw (by kernel_rfl) ?_
  refine dreg_q [5] [80] rfl (load_box tab_ok rfl rfl rfl rfl) ?_
  refine dreg_q [7] [112] rfl (load_box tab_ok rfl rfl rfl rfl) ?_
  refine dreg_q [3] [64] rfl (load_box tab_ok rfl rfl rfl rfl) ?_
  refine dreg_q [41] [] rfl (call_r hSz rfl rfl (arg_e arg_nil) (.inl rfl) (fun _ => rfl)) ?_
  refine dreg_q [39, 40, 42] [] rfl (call_r hDz rfl rfl (arg_e (arg_e (arg_e arg_nil))) (.inl rfl) (fun _ => rfl)) ?_
  refine dreg_q [43] [] rfl (step_C tab_ok (fun K hk => hk)) ?_
  refine dreg_q [38] [] rfl (step_C tab_ok (fun K hk => hk)) ?_
  refine dreg_q [38] [] rfl (step_C tab_ok (fun K hk => hk)) ?_
  refine dreg_w [] [] rfl (step_C tab_ok (fun K hk => hk)) ?_
  refine dreg_s [11, 44] [336] (store_row tab_ok rfl rfl rfl ⟨_, ⟨rfl, rfl, rfl⟩, rfl⟩ rfl) ?_
  refine dreg_q [45] [] rfl (step_C tab_ok (fun K hk => hk)) ?_
  refine dreg_end (by kernel_rfl) ?_
  refine seq_n ?_
  refine wc_seq ?_
  refine wc_region ?_
  refine reg_quiet rfl (load_box tab_ok rfl rfl rfl rfl) ?_
  refine reg_quiet rfl (call_r hRef rfl rfl (arg_e arg_nil) (.inl rfl) (fun _ => rfl)) ?_
  refine reg_new (step_C tab_ok (fun K hk => hk)) rfl ?_
  refine reg_store (store_row tab_ok rfl rfl rfl ⟨_, ⟨rfl, rfl, rfl⟩, rfl⟩ rfl) ?_
  refine reg_nil ?_
  refine seq_n ?_
  refine wc_seq ?_
  refine wc_region ?_
  refine reg_quiet rfl (load_box tab_ok rfl rfl rfl rfl) ?_
  refine reg_quiet rfl (load_box tab_ok rfl rfl rfl rfl) ?_
  refine reg_new2 (call_h [(0, some 144)] hRy rfl rfl rfl (arg_yO rfl rfl (arg_e arg_nil)) ⟨⟨rfl, rfl, _, _, rfl, rfl, .refl _⟩, trivial⟩ rfl rfl (.inl rfl) rfl rfl) rfl ?_
  refine reg_quiet rfl (step_C tab_ok (fun K hk => hk)) ?_
  refine reg_quiet rfl (step_C tab_ok (fun K hk => hk)) ?_
  refine reg_quiet rfl (step_C tab_ok (fun K hk => hk)) ?_
  refine reg_new (step_C tab_ok (fun K hk => hk)) rfl ?_
  refine reg_store (store_row tab_ok rfl rfl rfl ⟨_, ⟨rfl, rfl, rfl⟩, rfl⟩ rfl) ?_
  refine reg_quiet rfl (step_C tab_ok (fun K hk => hk)) ?_
  refine reg_nil ?_
  refine seq_n ?_
  refine wc_seq ?_
  refine wc_region ?_
  refine reg_quiet rfl (load_box tab_ok rfl rfl rfl rfl) ?_
  refine reg_quiet rfl (load_box tab_ok rfl rfl rfl rfl) ?_
  refine reg_quiet rfl (call_r hRz rfl rfl (arg_e (arg_e arg_nil)) (.inl rfl) (fun _ => rfl)) ?_
  refine reg_quiet rfl (step_C tab_ok (fun K hk => hk)) ?_
  refine reg_quiet rfl (step_C tab_ok (fun K hk => hk)) ?_
  refine reg_quiet rfl (step_C tab_ok (fun K hk => hk)) ?_
  refine reg_new (step_C tab_ok (fun K hk => hk)) rfl ?_
  refine reg_store (store_row tab_ok rfl rfl rfl ⟨_, ⟨rfl, rfl, rfl⟩, rfl⟩ rfl) ?_
  refine reg_quiet rfl (step_C tab_ok (fun K hk => hk)) ?_
  refine reg_nil ?_
  refine seq_n ?_
  refine wc_seq ?_
  refine wc_seq ?_
  refine wc_region ?_
  refine reg_quiet rfl (step_C tab_ok (fun K hk => hk)) ?_
  refine reg_nil ?_
  refine seq_n ?_
  refine wc_block ?_
  refine wc_inv (fun i : Nat => ⟨[(18, .int .i64 i), (8, .own 72 0 y.bytes.length 1 none), (3, .ptr 64 []), (4, .ptr 65 []), (7, .ptr 66 []), (9, .ptr 67 []), (11, .ptr 68 []), (13, .ptr 69 []), (14, .ptr 70 []), (16, .ptr 71 [])], [(64, some (.box 24 (.d (encX x)))), (65, some (.box 39 (.acons (.d (u8s y.kind)) (.acons (.d (u8s y.sector)) (.acons (.d (u8s y.back)) (.acons (.own 72 0 y.bytes.length 1 none) (.d .nil))))))), (66, some (.box 27 (.d (encDk d)))), (67, some (.box 27 (.d (encDk da)))), (68, some (.box 27 (.d (encDk db)))), (69, some (.box 34 (.d (encRD L)))), (70, some (.box 34 (.d (encRD LA)))), (71, some (.box 34 (.d (encRD LB)))), (72, some (rowU false (incK y.bytes i)))], 80, Try.f4.ntmps, 64⟩) (fun i => i ≤ y.bytes.length) (fun i => y.bytes.length - i) 0 [(64, some 64), (65, some 72), (66, some 112), (67, some 248), (68, some 336), (69, some 376), (70, some 440), (71, some 512), (72, some 144)] (Nat.zero_le _)
    (.of rfl rfl rfl rfl rfl ⟨⟨_, rfl, .refl _⟩, rfl, ⟨_, rfl, .refl _⟩, rfl, ⟨_, rfl, .refl _⟩, rfl, ⟨_, rfl, .refl _⟩, rfl, ⟨_, rfl, .refl _⟩, rfl, ⟨_, rfl, .refl _⟩, rfl, ⟨_, rfl, .refl _⟩, rfl, ⟨_, rfl, .refl _⟩, rfl, ⟨_, rfl, .refl _⟩, rfl, ⟨_, rfl, .refl _⟩, rfl, trivial⟩ ⟨⟨rfl, rfl, _, rfl, .refl _⟩, ⟨rfl, rfl, _, rfl, .refl _⟩, ⟨rfl, rfl, _, rfl, .refl _⟩, ⟨rfl, rfl, _, rfl, .refl _⟩, ⟨rfl, rfl, _, rfl, .refl _⟩, ⟨rfl, rfl, _, rfl, .refl _⟩, ⟨rfl, rfl, _, rfl, .refl _⟩, ⟨rfl, rfl, _, rfl, .refl _⟩, ⟨rfl, rfl, _, rfl, .of_eq (by rw [incK_zero]; rfl)⟩, trivial⟩) ?_
  intro i hi
  have hil := incK_len y.bytes i hi
  refine wc_of ?_
  refine wc_seq ?_
  refine wc_seq ?_
  refine wc_region ?_
  refine reg_quiet rfl (step_C tab_ok (fun K hk => hk)) ?_
  refine reg_quiet rfl (step_C tab_ok (fun K hk => hk)) ?_
  refine reg_quiet rfl (len_own tab_ok rfl rfl) ?_
  refine reg_quiet rfl (step_C tab_ok (fun K hk => hk)) ?_
  refine reg_nil ?_
  refine seq_n ?_
  refine wc_cond rfl (fun h3 => ?_) (fun h3 => ?_)
  · have hlt : i < y.bytes.length := by have := of_decide_eq_true h3; omega
    obtain ⟨c, hc0⟩ : ∃ c, y.bytes[i]? = some c := ⟨_, List.getElem?_eq_getElem hlt⟩
    have hc : (incK y.bytes i)[((i : Int)).toNat]? = some c := by rw [Int.toNat_natCast]; exact incK_get hc0
    have hset := incK_set hc0
    have hb0 := hbr c (List.mem_of_getElem? hc0)
    refine wc_skip ?_
    refine seq_n ?_
    refine wc_seq ?_
    refine wc_block ?_
    refine wc_region ?_
    refine reg_quiet rfl (step_C tab_ok (fun K hk => hk)) ?_
    refine reg_quiet rfl (step_C tab_ok (fun K hk => hk)) ?_
    refine reg_quiet rfl (index_own tab_ok rfl rfl rfl rfl rfl (by omega) (by omega)) ?_
    refine reg_quiet rfl (load_row (v := .int .u8 c) tab_ok rfl rfl ⟨rfl, c, hc, encU8 c, rfl, rfl⟩ rfl) ?_
    refine reg_quiet rfl (add_int (m := inc c) tab_ok rfl rfl rfl) ?_
    refine reg_quiet rfl (index_own tab_ok rfl rfl rfl rfl rfl (by omega) (by omega)) ?_
    refine reg_store (store_row tab_ok rfl rfl rfl ⟨rfl, c, inc c, hc, ⟨rfl, rfl, rfl⟩, rfl⟩ rfl) ?_
    refine reg_nil ?_
    refine blk_n ?_
    refine seq_n ?_
    refine wc_region ?_
    refine reg_quiet rfl (step_C tab_ok (fun K hk => hk)) ?_
    refine reg_quiet rfl (add_int tab_ok rfl rfl (wrap_i64 (by omega) (by omega))) ?_
    refine reg_quiet rfl (step_C tab_ok (fun K hk => hk)) ?_
    refine reg_nil ?_
    refine loop_n (i + 1) [(64, some 64), (65, some 65), (66, some 66), (67, some 67), (68, some 68), (69, some 69), (70, some 70), (71, some 71), (72, some 72)] (show i + 1 ≤ y.bytes.length from hlt) (show y.bytes.length - (i + 1) < y.bytes.length - i by omega) ?_
    exact .of rfl rfl rfl rfl rfl ⟨⟨_, rfl, .refl _⟩, rfl, ⟨_, rfl, .refl _⟩, rfl, ⟨_, rfl, .refl _⟩, rfl, ⟨_, rfl, .refl _⟩, rfl, ⟨_, rfl, .refl _⟩, rfl, ⟨_, rfl, .refl _⟩, rfl, ⟨_, rfl, .refl _⟩, rfl, ⟨_, rfl, .refl _⟩, rfl, ⟨_, rfl, .refl _⟩, rfl, ⟨_, rfl, .refl _⟩, rfl, trivial⟩ ⟨⟨rfl, rfl, _, rfl, .refl _⟩, ⟨rfl, rfl, _, rfl, .refl _⟩, ⟨rfl, rfl, _, rfl, .refl _⟩, ⟨rfl, rfl, _, rfl, .refl _⟩, ⟨rfl, rfl, _, rfl, .refl _⟩, ⟨rfl, rfl, _, rfl, .refl _⟩, ⟨rfl, rfl, _, rfl, .refl _⟩, ⟨rfl, rfl, _, rfl, .refl _⟩, ⟨rfl, rfl, _, rfl, .of_eq (by rw [← hset]; rfl)⟩, trivial⟩
  · obtain rfl : i = y.bytes.length := by have := of_decide_eq_false h3; omega
    refine wc_exit ?_
    refine seq_x ?_
    refine loop_x ?_
    refine blk_x ?_
    refine seq_n ?_
    refine wc_seq ?_
    refine wc_draw (by kernel_rfl) ?_
    refine dreg_q [4] [65, 72] rfl (step_C tab_ok (fun K hk => hk)) ?_
    refine dreg_q [72] [65, 72] rfl (load_box tab_ok rfl rfl rfl rfl) ?_
    refine dreg_q [73] [] rfl (conv_int (m := y.sector) tab_ok rfl rfl rfl hws) ?_
    refine dreg_q [3] [64] rfl (load_box tab_ok rfl rfl rfl rfl) ?_
    refine dreg_q [75] [] rfl (call_r hSz rfl rfl (arg_e arg_nil) (.inl rfl) (fun _ => rfl)) ?_
    refine dreg_q [74, 76] [] rfl (rem_to tab_ok rfl rfl (by omega) hse) ?_
    refine dreg_q [77] [] rfl (step_C tab_ok (fun K hk => hk)) ?_
    refine dreg_end (by kernel_rfl) ?_
    refine seq_n ?_
    refine wc_seq ?_
    refine wc_region ?_
    refine reg_quiet rfl (load_box tab_ok rfl rfl rfl rfl) ?_
    refine reg_quiet rfl (step_C tab_ok (fun K hk => hk)) ?_
    refine reg_new (call_new hRd rfl rfl (arg_e (arg_e arg_nil)) (.inl rfl) rfl rfl) rfl ?_
    refine reg_quiet rfl (step_C tab_ok (fun K hk => hk)) ?_
    refine reg_quiet rfl (step_C tab_ok (fun K hk => hk)) ?_
    refine reg_quiet rfl (step_C tab_ok (fun K hk => hk)) ?_
    refine reg_quiet rfl (step_C tab_ok (fun K hk => hk)) ?_
    refine reg_quiet rfl (step_C tab_ok (fun K hk => hk)) ?_
    refine reg_nil ?_
    refine seq_n ?_
    refine wc_seq ?_
    refine wc_seq ?_
    refine wc_region ?_
    refine reg_quiet rfl (step_C tab_ok (fun K hk => hk)) ?_
    refine reg_quiet rfl (step_C tab_ok (fun K hk => hk)) ?_
    refine reg_quiet rfl (load_box tab_ok rfl rfl rfl rfl) ?_
    refine reg_quiet rfl (step_C tab_ok (fun K hk => hk)) ?_
    refine reg_quiet rfl (call_r hLast rfl rfl (arg_e (arg_e arg_nil)) (.inl rfl) (fun _ => rfl)) ?_
    refine reg_new2 (call_h [(0, some 184)] (contentL_own b false hpb) rfl rfl rfl (arg_give rfl rfl (arg_e (arg_e arg_nil))) ⟨⟨rfl, rfl, _, _, rfl, rfl, .refl _⟩, trivial⟩ rfl rfl (.inl rfl) rfl rfl) rfl ?_
    refine reg_quiet rfl (step_C tab_ok (fun K hk => hk)) ?_
    refine reg_nil ?_
    refine seq_n ?_
    refine wc_false rfl rfl ?_
    refine wc_skip ?_
    refine seq_n ?_
    refine wc_seq ?_
    refine wc_seq ?_
    refine wc_region ?_
    refine reg_quiet rfl (step_C tab_ok (fun K hk => hk)) ?_
    refine reg_nil ?_
    refine seq_n ?_
    refine wc_block ?_
    refine wc_inv (fun j : Nat => ⟨[(22, .int .i64 j), (20, .own 73 0 b.length 1 (some b.length)), (7, .ptr 66 []), (9, .ptr 67 []), (11, .ptr 68 []), (13, .ptr 69 []), (14, .ptr 70 []), (16, .ptr 71 [])], [(66, some (.box 27 (.d (encDk d)))), (67, some (.box 27 (.d (encDk da)))), (68, some (.box 27 (.d (encDk db)))), (69, some (.box 34 (.d (encRD L)))), (70, some (.box 34 (.d (encRD LA)))), (71, some (.box 34 (.d (encRD LB)))), (73, some (rowU false (incK b j)))], 80, Try.f4.ntmps, 64⟩) (fun j => j ≤ b.length) (fun j => b.length - j) 0 [(66, some 66), (67, some 67), (68, some 68), (69, some 69), (70, some 70), (71, some 71), (73, some 184)] (Nat.zero_le _)
      (.of rfl rfl rfl rfl rfl ⟨⟨_, rfl, .refl _⟩, rfl, ⟨_, rfl, .refl _⟩, rfl, ⟨_, rfl, .refl _⟩, rfl, ⟨_, rfl, .refl _⟩, rfl, ⟨_, rfl, .refl _⟩, rfl, ⟨_, rfl, .refl _⟩, rfl, ⟨_, rfl, .refl _⟩, rfl, ⟨_, rfl, .refl _⟩, rfl, trivial⟩ ⟨⟨rfl, rfl, _, rfl, .refl _⟩, ⟨rfl, rfl, _, rfl, .refl _⟩, ⟨rfl, rfl, _, rfl, .refl _⟩, ⟨rfl, rfl, _, rfl, .refl _⟩, ⟨rfl, rfl, _, rfl, .refl _⟩, ⟨rfl, rfl, _, rfl, .refl _⟩, ⟨rfl, rfl, _, rfl, .of_eq (by rw [incK_zero]; rfl)⟩, trivial⟩) ?_
    intro j hj
    have hjl := incK_len b j hj
    refine wc_of ?_
    refine wc_seq ?_
    refine wc_seq ?_
    refine wc_region ?_
    refine reg_quiet rfl (step_C tab_ok (fun K hk => hk)) ?_
    refine reg_quiet rfl (step_C tab_ok (fun K hk => hk)) ?_
    refine reg_quiet rfl (len_own tab_ok rfl rfl) ?_
    refine reg_quiet rfl (step_C tab_ok (fun K hk => hk)) ?_
    refine reg_nil ?_
    refine seq_n ?_
    refine wc_cond rfl (fun h3 => ?_) (fun h3 => ?_)
    · have hlt : j < b.length := by have := of_decide_eq_true h3; omega
      obtain ⟨e, he0⟩ : ∃ e, b[j]? = some e := ⟨_, List.getElem?_eq_getElem hlt⟩
      have he : (incK b j)[((j : Int)).toNat]? = some e := by rw [Int.toNat_natCast]; exact incK_get he0
      have hset := incK_set he0
      refine wc_skip ?_
      refine seq_n ?_
      refine wc_seq ?_
      refine wc_block ?_
      refine wc_region ?_
      refine reg_quiet rfl (step_C tab_ok (fun K hk => hk)) ?_
      refine reg_quiet rfl (step_C tab_ok (fun K hk => hk)) ?_
      refine reg_quiet rfl (index_own tab_ok rfl rfl rfl rfl rfl (by omega) (by omega)) ?_
      refine reg_quiet rfl (load_row (v := .int .u8 e) tab_ok rfl rfl ⟨rfl, e, he, encU8 e, rfl, rfl⟩ rfl) ?_
      refine reg_quiet rfl (add_int (m := inc e) tab_ok rfl rfl rfl) ?_
      refine reg_quiet rfl (index_own tab_ok rfl rfl rfl rfl rfl (by omega) (by omega)) ?_
      refine reg_store (store_row tab_ok rfl rfl rfl ⟨rfl, e, inc e, he, ⟨rfl, rfl, rfl⟩, rfl⟩ rfl) ?_
      refine reg_nil ?_
      refine blk_n ?_
      refine seq_n ?_
      refine wc_region ?_
      refine reg_quiet rfl (step_C tab_ok (fun K hk => hk)) ?_
      refine reg_quiet rfl (add_int tab_ok rfl rfl (wrap_i64 (by omega) (by omega))) ?_
      refine reg_quiet rfl (step_C tab_ok (fun K hk => hk)) ?_
      refine reg_nil ?_
      refine loop_n (j + 1) [(66, some 66), (67, some 67), (68, some 68), (69, some 69), (70, some 70), (71, some 71), (73, some 73)] (show j + 1 ≤ b.length from hlt) (show b.length - (j + 1) < b.length - j by omega) ?_
      exact .of rfl rfl rfl rfl rfl ⟨⟨_, rfl, .refl _⟩, rfl, ⟨_, rfl, .refl _⟩, rfl, ⟨_, rfl, .refl _⟩, rfl, ⟨_, rfl, .refl _⟩, rfl, ⟨_, rfl, .refl _⟩, rfl, ⟨_, rfl, .refl _⟩, rfl, ⟨_, rfl, .refl _⟩, rfl, ⟨_, rfl, .refl _⟩, rfl, trivial⟩ ⟨⟨rfl, rfl, _, rfl, .refl _⟩, ⟨rfl, rfl, _, rfl, .refl _⟩, ⟨rfl, rfl, _, rfl, .refl _⟩, ⟨rfl, rfl, _, rfl, .refl _⟩, ⟨rfl, rfl, _, rfl, .refl _⟩, ⟨rfl, rfl, _, rfl, .refl _⟩, ⟨rfl, rfl, _, rfl, .of_eq (by rw [← hset]; rfl)⟩, trivial⟩
    · obtain rfl : j = b.length := by have := of_decide_eq_false h3; omega
      refine wc_exit ?_
      refine seq_x ?_
      refine loop_x ?_
      refine blk_x ?_
      refine seq_n ?_
      refine wc_seq ?_
      refine wc_draw (by kernel_rfl) ?_
      refine dreg_q [7] [66] rfl (load_box tab_ok rfl rfl rfl rfl) ?_
      refine dreg_q [13] [69] rfl (load_box tab_ok rfl rfl rfl rfl) ?_
      refine dreg_q [103, 104] [] rfl (call_r q1 rfl rfl (arg_e (arg_e arg_nil)) (.inl rfl) (fun _ => rfl)) ?_
      refine dreg_q [9] [67] rfl (load_box tab_ok rfl rfl rfl rfl) ?_
      refine dreg_q [14] [70] rfl (load_box tab_ok rfl rfl rfl rfl) ?_
      refine dreg_q [106, 107] [] rfl (call_r q2 rfl rfl (arg_e (arg_e arg_nil)) (.inl rfl) (fun _ => rfl)) ?_
      refine dreg_q [105, 108] [] rfl (mul_int (m := 1) tab_ok rfl rfl rfl) ?_
      refine dreg_q [11] [68] rfl (load_box tab_ok rfl rfl rfl rfl) ?_
      refine dreg_q [16] [71] rfl (load_box tab_ok rfl rfl rfl rfl) ?_
      refine dreg_q [110, 111] [] rfl (call_r q3 rfl rfl (arg_e (arg_e arg_nil)) (.inl rfl) (fun _ => rfl)) ?_
      refine dreg_q [109, 112] [] rfl (mul_int (m := 1) tab_ok rfl rfl rfl) ?_
      refine dreg_q [113] [] rfl (step_C tab_ok (fun K hk => hk)) ?_
      refine dreg_q [114] [] rfl (step_C tab_ok (fun K hk => hk)) ?_
      refine dreg_onq [115] [] rfl rfl rfl rfl (call_r lives_is rfl rfl arg_nil (.inl rfl) (fun _ => rfl)) ?_
      refine dreg_q [115, 116] [] rfl (pick_T tab_ok rfl rfl rfl) ?_
      refine dreg_q [117] [] rfl (step_C tab_ok (fun K hk => hk)) ?_
      refine dreg_end (by kernel_rfl) ?_
      refine seq_n ?_
      refine wc_ret ?_
      exact ⟨trivial, [], .of rfl rfl rfl rfl rfl ⟨⟨_, rfl, AVLe.of_eq rfl⟩, rfl, trivial⟩ trivial⟩
theorem val_na (x : Int × List Opr) (y z : Opr) (hy : OpOk y) (hz : OpOk z) (N s : Nat) (hNb : 1 ≤ N ∧ N ≤ 130) (hse : y.sector.tmod (N : Int) = s) (d da db : Dk) (L LA LB : List Vs) (ea eb : Int)
    (hSz : FnIs Try.prog 10 [.d (encX x)] [] (.int .i64 N) []) (hOf : FnIs Try.prog 16 [.d (encX x)] [] (.d (encDk d)) []) (hRef : FnIs Try.prog 17 [.d (encX x)] [] (.d (encRD L)) [])
    (hDz : FnIs Try.prog 13 [.d (encOpr z), .d (encDk d), .d (i6 N)] [] (tup2 (encDk db) (i6 eb)) []) (hRz : FnIs Try.prog 14 [.d (encOpr z), .d (encRD L)] [] (tup2 (encRD LB) (i6 eb)) [])
    (q1 : FnIs Try.prog 12 [.d (encDk d), .d (encRD L)] [] (.int .i64 1) []) (q2 : FnIs Try.prog 12 [.d (encDk da), .d (encRD LA)] [] (.int .i64 1) []) (q3 : FnIs Try.prog 12 [.d (encDk db), .d (encRD LB)] [] (.int .i64 1) [])
    (hp : 0 < y.bytes.length) (hlen : y.bytes.length ≤ maxLen) (hl2 : y.bytes.length ≤ 140737488355328) (hbb : y.bytes.length * r5.bytes ≤ 140737488355328) (hbr : ∀ c ∈ y.bytes, True) (hDy : FnIs Try.prog 13 [yO y y.bytes.length, .d (encDk d), .d (i6 N)] [(0, rowU false y.bytes)] (tup2 (encDk da) (i6 ea)) [(0, rowU false y.bytes)]) (hRy : FnIs Try.prog 14 [yO y y.bytes.length, .d (encRD L)] [(0, rowU false y.bytes)] (tup2 (encRD LA) (i6 ea)) [(0, rowU false y.bytes)])
    (hRd : FnIs Try.prog 18 [.d (encDk da), .d (i6 s)] [] (tup2 (.arx 1 encU8 ([] : List Int)) (i6 0)) []) (hLast : FnIs Try.prog 20 [.d (encRD LA), .d (i6 s)] [] (.d (encV ⟨true, []⟩)) []) (hCon : FnIs Try.prog 19 [.d (.arx 1 encU8 ([] : List Int)), .d (i6 0), .d (encV ⟨true, []⟩)] [] (.int .i64 1) []) : FnIs Try.prog 4 [.d (encX x), .d (encOpr y), .d (encOpr z)] [] (.bool true) [] := by
  have hs0 : 0 ≤ y.sector ∧ y.sector ≤ 255 := hy.s
  have hws : IntKind.i64.wrap y.sector = y.sector := wrap_i64 (by omega) (by omega)
  skip
  refine fnIs_of tab_ok Try.func4 rfl rfl rfl ?_
  refine wc_seq ?_
  refine wc_region ?_
  refine reg_new (step_C tab_ok (fun K hk => hk)) rfl ?_
  refine reg_new (step_C tab_ok (fun K hk => hk)) rfl ?_
  refine reg_new (step_C tab_ok (fun K hk => hk)) rfl ?_
  refine reg_quiet rfl (step_C tab_ok (fun K hk => hk)) ?_
  refine reg_nil ?_
  refine seq_n ?_
  refine wc_seq ?_
  refine wc_region ?_
  refine reg_quiet rfl (load_box tab_ok rfl rfl rfl rfl) ?_
  refine reg_quiet rfl (call_r hOf rfl rfl (arg_e arg_nil) (.inl rfl) (fun _ => rfl)) ?_
  refine reg_new (step_C tab_ok (fun K hk => hk)) rfl ?_
  refine reg_store (store_row tab_ok rfl rfl rfl ⟨_, ⟨rfl, rfl, rfl⟩, rfl⟩ rfl) ?_
  refine reg_nil ?_
  refine seq_n ?_
  refine wc_seq ?_
  refine wc_region ?_
  refine reg_quiet rfl (step_C tab_ok (fun K hk => hk)) ?_
  refine reg_quiet rfl (load_box tab_ok rfl rfl ⟨_, rfl, rfl⟩ rfl) ?_
  refine reg_new (append_empty (s := 1) (enc := encU8) (ys := y.bytes) tab_ok rfl rfl rfl rfl (.inr rfl) hp hlen hbb (src_arr (by decide) rfl hp)) rfl ?_
  refine reg_quiet rfl (step_C tab_ok (fun K hk => hk)) ?_
  refine reg_nil ?_
  refine seq_n ?_
  refine wc_seq ?_
  refine wc_region ?_
  refine reg_quiet rfl (step_C tab_ok (fun K hk => hk)) ?_
  refine reg_quiet rfl (step_C tab_ok (fun K hk => hk)) ?_
  refine reg_store (store_row tab_ok rfl rfl rfl ⟨_, ⟨_, ⟨rfl, rfl, rfl⟩, rfl⟩, rfl⟩ rfl) ?_
  refine reg_nil ?_
  refine seq_n ?_
  refine wc_seq ?_
  refine wc_draw (by kernel_rfl) ?_
  refine dreg_q [4] [72, 144] rfl (load_box tab_ok rfl rfl rfl rfl) ?_
  refine dreg_q [7] [112] rfl (load_box tab_ok rfl rfl rfl rfl) ?_
  refine dreg_q [3] [64] rfl (load_box tab_ok rfl rfl rfl rfl) ?_
  refine dreg_q [33] [] rfl (call_r hSz rfl rfl (arg_e arg_nil) (.inl rfl) (fun _ => rfl)) ?_
  refine dreg_w2 [31, 32, 34] [144] rfl (call_h [(0, some 144)] hDy rfl rfl rfl (arg_yO rfl rfl (arg_e (arg_e arg_nil))) ⟨⟨rfl, rfl, _, _, rfl, rfl, .refl _⟩, trivial⟩ rfl rfl (.inl rfl) rfl rfl) ?_
  refine dreg_q [35] [] rfl (step_C tab_ok (fun K hk => hk)) ?_
  refine dreg_q [30] [] rfl (step_C tab_ok (fun K hk => hk)) ?_
  refine dreg_q [30] [] rfl (step_C tab_ok (fun K hk => hk)) ?_
  refine dreg_w [] [] rfl (step_C tab_ok (fun K hk => hk)) ?_
  refine dreg_s [9, 36] [248] (store_row tab_ok rfl rfl rfl ⟨_, ⟨rfl, rfl, rfl⟩, rfl⟩ rfl) ?_
  refine dreg_q [37] [] rfl (step_C tab_ok (fun K hk => hk)) ?_
  refine dreg_end (by kernel_rfl) ?_
  refine seq_n ?_
  refine wc_seq ?_
  refine wc_draw (by kernel_rfl) ?_
  refine dreg_q [5] [80] rfl (load_box tab_ok rfl rfl rfl rfl) ?_
  refine dreg_q [7] [112] rfl (load_box tab_ok rfl rfl rfl rfl) ?_
  refine dreg_q [3] [64] rfl (load_box tab_ok rfl rfl rfl rfl) ?_
  refine dreg_q [41] [] rfl (call_r hSz rfl rfl (arg_e arg_nil) (.inl rfl) (fun _ => rfl)) ?_
  refine dreg_q [39, 40, 42] [] rfl (call_r hDz rfl rfl (arg_e (arg_e (arg_e arg_nil))) (.inl rfl) (fun _ => rfl)) ?_
  refine dreg_q [43] [] rfl (step_C tab_ok (fun K hk => hk)) ?_
  refine dreg_q [38] [] rfl (step_C tab_ok (fun K hk => hk)) ?_
  refine dreg_q [38] [] rfl (step_C tab_ok (fun K hk => hk)) ?_
  refine dreg_w [] [] rfl (step_C tab_ok (fun K hk => hk)) ?_
  refine dreg_s [11, 44] [336] (store_row tab_ok rfl rfl rfl ⟨_, ⟨rfl, rfl, rfl⟩, rfl⟩ rfl) ?_
  refine dreg_q [45] [] rfl (step_C tab_ok (fun K hk => hk)) ?_
  refine dreg_end (by kernel_rfl) ?_
  refine seq_n ?_
  refine wc_seq ?_
  refine wc_region ?_
  refine reg_quiet rfl (load_box tab_ok rfl rfl rfl rfl) ?_
  refine reg_quiet rfl (call_r hRef rfl rfl (arg_e arg_nil) (.inl rfl) (fun _ => rfl)) ?_
  refine reg_new (step_C tab_ok (fun K hk => hk)) rfl ?_
  refine reg_store (store_row tab_ok rfl rfl rfl ⟨_, ⟨rfl, rfl, rfl⟩, rfl⟩ rfl) ?_
  refine reg_nil ?_
  refine seq_n ?_
  refine wc_seq ?_
  refine wc_region ?_
  refine reg_quiet rfl (load_box tab_ok rfl rfl rfl rfl) ?_
  refine reg_quiet rfl (load_box tab_ok rfl rfl rfl rfl) ?_
  refine reg_new2 (call_h [(0, some 144)] hRy rfl rfl rfl (arg_yO rfl rfl (arg_e arg_nil)) ⟨⟨rfl, rfl, _, _, rfl, rfl, .refl _⟩, trivial⟩ rfl rfl (.inl rfl) rfl rfl) rfl ?_
  refine reg_quiet rfl (step_C tab_ok (fun K hk => hk)) ?_
  refine reg_quiet rfl (step_C tab_ok (fun K hk => hk)) ?_
  refine reg_quiet rfl (step_C tab_ok (fun K hk => hk)) ?_
  refine reg_new (step_C tab_ok (fun K hk => hk)) rfl ?_
  refine reg_store (store_row tab_ok rfl rfl rfl ⟨_, ⟨rfl, rfl, rfl⟩, rfl⟩ rfl) ?_
  refine reg_quiet rfl (step_C tab_ok (fun K hk => hk)) ?_
  refine reg_nil ?_
  refine seq_n ?_
  refine wc_seq ?_
  refine wc_region ?_
  refine reg_quiet rfl (load_box tab_ok rfl rfl rfl rfl) ?_
  refine reg_quiet rfl (load_box tab_ok rfl rfl rfl rfl) ?_
  refine reg_quiet rfl (call_r hRz rfl rfl (arg_e (arg_e arg_nil)) (.inl rfl) (fun _ => rfl)) ?_
  refine reg_quiet rfl (step_C tab_ok (fun K hk => hk)) ?_
  refine reg_quiet rfl (step_C tab_ok (fun K hk => hk)) ?_
  refine reg_quiet rfl (step_C tab_ok (fun K hk => hk)) ?_
  refine reg_new (step_C tab_ok (fun K hk => hk)) rfl ?_
  refine reg_store (store_row tab_ok rfl rfl rfl ⟨_, ⟨rfl, rfl, rfl⟩, rfl⟩ rfl) ?_
  refine reg_quiet rfl (step_C tab_ok (fun K hk => hk)) ?_
  refine reg_nil ?_
  refine seq_n ?_
  refine wc_seq ?_
  refine wc_seq ?_
  refine wc_region ?_
  refine reg_quiet rfl (step_C tab_ok (fun K hk => hk)) ?_
  refine reg_nil ?_
  refine seq_n ?_
  refine wc_block ?_
  refine wc_inv (fun i : Nat => ⟨[(18, .int .i64 i), (8, .own 72 0 y.bytes.length 1 none), (3, .ptr 64 []), (4, .ptr 65 []), (7, .ptr 66 []), (9, .ptr 67 []), (11, .ptr 68 []), (13, .ptr 69 []), (14, .ptr 70 []), (16, .ptr 71 [])], [(64, some (.box 24 (.d (encX x)))), (65, some (.box 39 (.acons (.d (u8s y.kind)) (.acons (.d (u8s y.sector)) (.acons (.d (u8s y.back)) (.acons (.own 72 0 y.bytes.length 1 none) (.d .nil))))))), (66, some (.box 27 (.d (encDk d)))), (67, some (.box 27 (.d (encDk da)))), (68, some (.box 27 (.d (encDk db)))), (69, some (.box 34 (.d (encRD L)))), (70, some (.box 34 (.d (encRD LA)))), (71, some (.box 34 (.d (encRD LB)))), (72, some (rowU false (incK y.bytes i)))], 80, Try.f4.ntmps, 64⟩) (fun i => i ≤ y.bytes.length) (fun i => y.bytes.length - i) 0 [(64, some 64), (65, some 72), (66, some 112), (67, some 248), (68, some 336), (69, some 376), (70, some 440), (71, some 512), (72, some 144)] (Nat.zero_le _)
    (.of rfl rfl rfl rfl rfl ⟨⟨_, rfl, .refl _⟩, rfl, ⟨_, rfl, .refl _⟩, rfl, ⟨_, rfl, .refl _⟩, rfl, ⟨_, rfl, .refl _⟩, rfl, ⟨_, rfl, .refl _⟩, rfl, ⟨_, rfl, .refl _⟩, rfl, ⟨_, rfl, .refl _⟩, rfl, ⟨_, rfl, .refl _⟩, rfl, ⟨_, rfl, .refl _⟩, rfl, ⟨_, rfl, .refl _⟩, rfl, trivial⟩ ⟨⟨rfl, rfl, _, rfl, .refl _⟩, ⟨rfl, rfl, _, rfl, .refl _⟩, ⟨rfl, rfl, _, rfl, .refl _⟩, ⟨rfl, rfl, _, rfl, .refl _⟩, ⟨rfl, rfl, _, rfl, .refl _⟩, ⟨rfl, rfl, _, rfl, .refl _⟩, ⟨rfl, rfl, _, rfl, .refl _⟩, ⟨rfl, rfl, _, rfl, .refl _⟩, ⟨rfl, rfl, _, rfl, .of_eq (by rw [incK_zero]; rfl)⟩, trivial⟩) ?_
  intro i hi
  have hil := incK_len y.bytes i hi
  refine wc_of ?_
  refine wc_seq ?_
  refine wc_seq ?_
  refine wc_region ?_
  refine reg_quiet rfl (step_C tab_ok (fun K hk => hk)) ?_
  refine reg_quiet rfl (step_C tab_ok (fun K hk => hk)) ?_
  refine reg_quiet rfl (len_own tab_ok rfl rfl) ?_
  refine reg_quiet rfl (step_C tab_ok (fun K hk => hk)) ?_
  refine reg_nil ?_
  refine seq_n ?_
  refine wc_cond rfl (fun h3 => ?_) (fun h3 => ?_)
  · have hlt : i < y.bytes.length := by have := of_decide_eq_true h3; omega
    obtain ⟨c, hc0⟩ : ∃ c, y.bytes[i]? = some c := ⟨_, List.getElem?_eq_getElem hlt⟩
    have hc : (incK y.bytes i)[((i : Int)).toNat]? = some c := by rw [Int.toNat_natCast]; exact incK_get hc0
    have hset := incK_set hc0
    have hb0 := hbr c (List.mem_of_getElem? hc0)
    refine wc_skip ?_
    refine seq_n ?_
    refine wc_seq ?_
    refine wc_block ?_
    refine wc_region ?_
    refine reg_quiet rfl (step_C tab_ok (fun K hk => hk)) ?_
    refine reg_quiet rfl (step_C tab_ok (fun K hk => hk)) ?_
    refine reg_quiet rfl (index_own tab_ok rfl rfl rfl rfl rfl (by omega) (by omega)) ?_
    refine reg_quiet rfl (load_row (v := .int .u8 c) tab_ok rfl rfl ⟨rfl, c, hc, encU8 c, rfl, rfl⟩ rfl) ?_
    refine reg_quiet rfl (add_int (m := inc c) tab_ok rfl rfl rfl) ?_
    refine reg_quiet rfl (index_own tab_ok rfl rfl rfl rfl rfl (by omega) (by omega)) ?_
    refine reg_store (store_row tab_ok rfl rfl rfl ⟨rfl, c, inc c, hc, ⟨rfl, rfl, rfl⟩, rfl⟩ rfl) ?_
    refine reg_nil ?_
    refine blk_n ?_
    refine seq_n ?_
    refine wc_region ?_
    refine reg_quiet rfl (step_C tab_ok (fun K hk => hk)) ?_
    refine reg_quiet rfl (add_int tab_ok rfl rfl (wrap_i64 (by omega) (by omega))) ?_
    refine reg_quiet rfl (step_C tab_ok (fun K hk => hk)) ?_
    refine reg_nil ?_
    refine loop_n (i + 1) [(64, some 64), (65, some 65), (66, some 66), (67, some 67), (68, some 68), (69, some 69), (70, some 70), (71, some 71), (72, some 72)] (show i + 1 ≤ y.bytes.length from hlt) (show y.bytes.length - (i + 1) < y.bytes.length - i by omega) ?_
    exact .of rfl rfl rfl rfl rfl ⟨⟨_, rfl, .refl _⟩, rfl, ⟨_, rfl, .refl _⟩, rfl, ⟨_, rfl, .refl _⟩, rfl, ⟨_, rfl, .refl _⟩, rfl, ⟨_, rfl, .refl _⟩, rfl, ⟨_, rfl, .refl _⟩, rfl, ⟨_, rfl, .refl _⟩, rfl, ⟨_, rfl, .refl _⟩, rfl, ⟨_, rfl, .refl _⟩, rfl, ⟨_, rfl, .refl _⟩, rfl, trivial⟩ ⟨⟨rfl, rfl, _, rfl, .refl _⟩, ⟨rfl, rfl, _, rfl, .refl _⟩, ⟨rfl, rfl, _, rfl, .refl _⟩, ⟨rfl, rfl, _, rfl, .refl _⟩, ⟨rfl, rfl, _, rfl, .refl _⟩, ⟨rfl, rfl, _, rfl, .refl _⟩, ⟨rfl, rfl, _, rfl, .refl _⟩, ⟨rfl, rfl, _, rfl, .refl _⟩, ⟨rfl, rfl, _, rfl, .of_eq (by rw [← hset]; rfl)⟩, trivial⟩
  · obtain rfl : i = y.bytes.length := by have := of_decide_eq_false h3; omega
    refine wc_exit ?_
    refine seq_x ?_
    refine loop_x ?_
    refine blk_x ?_
    refine seq_n ?_
    refine wc_seq ?_
    refine wc_draw (by kernel_rfl) ?_
    refine dreg_q [4] [65, 72] rfl (step_C tab_ok (fun K hk => hk)) ?_
    refine dreg_q [72] [65, 72] rfl (load_box tab_ok rfl rfl rfl rfl) ?_
    refine dreg_q [73] [] rfl (conv_int (m := y.sector) tab_ok rfl rfl rfl hws) ?_
    refine dreg_q [3] [64] rfl (load_box tab_ok rfl rfl rfl rfl) ?_
    refine dreg_q [75] [] rfl (call_r hSz rfl rfl (arg_e arg_nil) (.inl rfl) (fun _ => rfl)) ?_
    refine dreg_q [74, 76] [] rfl (rem_to tab_ok rfl rfl (by omega) hse) ?_
    refine dreg_q [77] [] rfl (step_C tab_ok (fun K hk => hk)) ?_
    refine dreg_end (by kernel_rfl) ?_
    refine seq_n ?_
    refine wc_seq ?_
    refine wc_region ?_
    refine reg_quiet rfl (load_box tab_ok rfl rfl rfl rfl) ?_
    refine reg_quiet rfl (step_C tab_ok (fun K hk => hk)) ?_
    refine reg_quiet rfl (call_r hRd rfl rfl (arg_e (arg_e arg_nil)) (.inl rfl) (fun _ => rfl)) ?_
    refine reg_quiet rfl (step_C tab_ok (fun K hk => hk)) ?_
    refine reg_quiet rfl (step_C tab_ok (fun K hk => hk)) ?_
    refine reg_quiet rfl (step_C tab_ok (fun K hk => hk)) ?_
    refine reg_quiet rfl (step_C tab_ok (fun K hk => hk)) ?_
    refine reg_quiet rfl (step_C tab_ok (fun K hk => hk)) ?_
    refine reg_nil ?_
    refine seq_n ?_
    refine wc_seq ?_
    refine wc_seq ?_
    refine wc_region ?_
    refine reg_quiet rfl (step_C tab_ok (fun K hk => hk)) ?_
    refine reg_quiet rfl (step_C tab_ok (fun K hk => hk)) ?_
    refine reg_quiet rfl (load_box tab_ok rfl rfl rfl rfl) ?_
    refine reg_quiet rfl (step_C tab_ok (fun K hk => hk)) ?_
    refine reg_quiet rfl (call_r hLast rfl rfl (arg_e (arg_e arg_nil)) (.inl rfl) (fun _ => rfl)) ?_
    refine reg_quiet rfl (call_r hCon rfl rfl (arg_e (arg_e (arg_e arg_nil))) (.inl rfl) (fun _ => rfl)) ?_
    refine reg_quiet rfl (step_C tab_ok (fun K hk => hk)) ?_
    refine reg_nil ?_
    refine seq_n ?_
    refine wc_false rfl rfl ?_
    refine wc_skip ?_
    refine seq_n ?_
    refine wc_seq ?_
    refine wc_seq ?_
    refine wc_region ?_
    refine reg_quiet rfl (step_C tab_ok (fun K hk => hk)) ?_
    refine reg_nil ?_
    refine seq_n ?_
    refine wc_block ?_
    refine wc_inv (fun j : Nat => ⟨[(22, .int .i64 j), (20, .d (.arx 1 encU8 ([] : List Int))), (7, .ptr 66 []), (9, .ptr 67 []), (11, .ptr 68 []), (13, .ptr 69 []), (14, .ptr 70 []), (16, .ptr 71 [])], [(66, some (.box 27 (.d (encDk d)))), (67, some (.box 27 (.d (encDk da)))), (68, some (.box 27 (.d (encDk db)))), (69, some (.box 34 (.d (encRD L)))), (70, some (.box 34 (.d (encRD LA)))), (71, some (.box 34 (.d (encRD LB))))], 80, Try.f4.ntmps, 64⟩) (fun j => j ≤ 0) (fun j => 0 - j) 0 [(66, some 66), (67, some 67), (68, some 68), (69, some 69), (70, some 70), (71, some 71)] (Nat.zero_le _)
      (.of rfl rfl rfl rfl rfl ⟨⟨_, rfl, .refl _⟩, rfl, ⟨_, rfl, .refl _⟩, rfl, ⟨_, rfl, .refl _⟩, rfl, ⟨_, rfl, .refl _⟩, rfl, ⟨_, rfl, .refl _⟩, rfl, ⟨_, rfl, .refl _⟩, rfl, ⟨_, rfl, .refl _⟩, rfl, ⟨_, rfl, .refl _⟩, rfl, trivial⟩ ⟨⟨rfl, rfl, _, rfl, .refl _⟩, ⟨rfl, rfl, _, rfl, .refl _⟩, ⟨rfl, rfl, _, rfl, .refl _⟩, ⟨rfl, rfl, _, rfl, .refl _⟩, ⟨rfl, rfl, _, rfl, .refl _⟩, ⟨rfl, rfl, _, rfl, .refl _⟩, trivial⟩) ?_
    intro j hj
    obtain rfl : j = 0 := by omega
    refine wc_of ?_
    refine wc_seq ?_
    refine wc_seq ?_
    refine wc_region ?_
    refine reg_quiet rfl (step_C tab_ok (fun K hk => hk)) ?_
    refine reg_quiet rfl (step_C tab_ok (fun K hk => hk)) ?_
    refine reg_quiet rfl (len_arx tab_ok rfl rfl) ?_
    refine reg_quiet rfl (step_C tab_ok (fun K hk => hk)) ?_
    refine reg_nil ?_
    refine seq_n ?_
    refine wc_false rfl rfl ?_
    refine wc_exit ?_
    refine seq_x ?_
    refine loop_x ?_
    refine blk_x ?_
    refine seq_n ?_
    refine wc_seq ?_
    refine wc_draw (by kernel_rfl) ?_
    refine dreg_q [7] [66] rfl (load_box tab_ok rfl rfl rfl rfl) ?_
    refine dreg_q [13] [69] rfl (load_box tab_ok rfl rfl rfl rfl) ?_
    refine dreg_q [103, 104] [] rfl (call_r q1 rfl rfl (arg_e (arg_e arg_nil)) (.inl rfl) (fun _ => rfl)) ?_
    refine dreg_q [9] [67] rfl (load_box tab_ok rfl rfl rfl rfl) ?_
    refine dreg_q [14] [70] rfl (load_box tab_ok rfl rfl rfl rfl) ?_
    refine dreg_q [106, 107] [] rfl (call_r q2 rfl rfl (arg_e (arg_e arg_nil)) (.inl rfl) (fun _ => rfl)) ?_
    refine dreg_q [105, 108] [] rfl (mul_int (m := 1) tab_ok rfl rfl rfl) ?_
    refine dreg_q [11] [68] rfl (load_box tab_ok rfl rfl rfl rfl) ?_
    refine dreg_q [16] [71] rfl (load_box tab_ok rfl rfl rfl rfl) ?_
    refine dreg_q [110, 111] [] rfl (call_r q3 rfl rfl (arg_e (arg_e arg_nil)) (.inl rfl) (fun _ => rfl)) ?_
    refine dreg_q [109, 112] [] rfl (mul_int (m := 1) tab_ok rfl rfl rfl) ?_
    refine dreg_q [113] [] rfl (step_C tab_ok (fun K hk => hk)) ?_
    refine dreg_q [114] [] rfl (step_C tab_ok (fun K hk => hk)) ?_
    refine dreg_onq [115] [] rfl rfl rfl rfl (call_r lives_is rfl rfl arg_nil (.inl rfl) (fun _ => rfl)) ?_
    refine dreg_q [115, 116] [] rfl (pick_T tab_ok rfl rfl rfl) ?_
    refine dreg_q [117] [] rfl (step_C tab_ok (fun K hk => hk)) ?_
    refine dreg_end (by kernel_rfl) ?_
    refine seq_n ?_
    refine wc_ret ?_
    exact ⟨trivial, [], .of rfl rfl rfl rfl rfl ⟨⟨_, rfl, AVLe.of_eq rfl⟩, rfl, trivial⟩ trivial⟩
theorem val_nn (x : Int × List Opr) (y z : Opr) (hy : OpOk y) (hz : OpOk z) (N s : Nat) (hNb : 1 ≤ N ∧ N ≤ 130) (hse : y.sector.tmod (N : Int) = s) (d da db : Dk) (L LA LB : List Vs) (ea eb : Int)
    (hSz : FnIs Try.prog 10 [.d (encX x)] [] (.int .i64 N) []) (hOf : FnIs Try.prog 16 [.d (encX x)] [] (.d (encDk d)) []) (hRef : FnIs Try.prog 17 [.d (encX x)] [] (.d (encRD L)) [])
    (hDz : FnIs Try.prog 13 [.d (encOpr z), .d (encDk d), .d (i6 N)] [] (tup2 (encDk db) (i6 eb)) []) (hRz : FnIs Try.prog 14 [.d (encOpr z), .d (encRD L)] [] (tup2 (encRD LB) (i6 eb)) [])
    (q1 : FnIs Try.prog 12 [.d (encDk d), .d (encRD L)] [] (.int .i64 1) []) (q2 : FnIs Try.prog 12 [.d (encDk da), .d (encRD LA)] [] (.int .i64 1) []) (q3 : FnIs Try.prog 12 [.d (encDk db), .d (encRD LB)] [] (.int .i64 1) [])
    (hp : 0 < y.bytes.length) (hlen : y.bytes.length ≤ maxLen) (hl2 : y.bytes.length ≤ 140737488355328) (hbb : y.bytes.length * r5.bytes ≤ 140737488355328) (hbr : ∀ c ∈ y.bytes, True) (hDy : FnIs Try.prog 13 [yO y y.bytes.length, .d (encDk d), .d (i6 N)] [(0, rowU false y.bytes)] (tup2 (encDk da) (i6 ea)) [(0, rowU false y.bytes)]) (hRy : FnIs Try.prog 14 [yO y y.bytes.length, .d (encRD L)] [(0, rowU false y.bytes)] (tup2 (encRD LA) (i6 ea)) [(0, rowU false y.bytes)])
    (vb : List Int) (hRd : FnIs Try.prog 18 [.d (encDk da), .d (i6 s)] [] (tup2 (.sc nil_) (i6 11)) []) (hLast : FnIs Try.prog 20 [.d (encRD LA), .d (i6 s)] [] (.d (encV ⟨false, vb⟩)) []) (hCon : FnIs Try.prog 19 [.d (.sc nil_), .d (i6 11), .d (encV ⟨false, vb⟩)] [] (.int .i64 1) []) : FnIs Try.prog 4 [.d (encX x), .d (encOpr y), .d (encOpr z)] [] (.bool true) [] := by
  have hs0 : 0 ≤ y.sector ∧ y.sector ≤ 255 := hy.s
  have hws : IntKind.i64.wrap y.sector = y.sector := wrap_i64 (by omega) (by omega)
  skip
  refine fnIs_of tab_ok Try.func4 rfl rfl rfl ?_
  refine wc_seq ?_
  refine wc_region ?_
  refine reg_new (step_C tab_ok (fun K hk => hk)) rfl ?_
  refine reg_new (step_C tab_ok (fun K hk => hk)) rfl ?_
  refine reg_new (step_C tab_ok (fun K hk => hk)) rfl ?_
  refine reg_quiet rfl (step_C tab_ok (fun K hk => hk)) ?_
  refine reg_nil ?_
  refine seq_n ?_
  refine wc_seq ?_
  refine wc_region ?_
  refine reg_quiet rfl (load_box tab_ok rfl rfl rfl rfl) ?_
  refine reg_quiet rfl (call_r hOf rfl rfl (arg_e arg_nil) (.inl rfl) (fun _ => rfl)) ?_
  refine reg_new (step_C tab_ok (fun K hk => hk)) rfl ?_
  refine reg_store (store_row tab_ok rfl rfl rfl ⟨_, ⟨rfl, rfl, rfl⟩, rfl⟩ rfl) ?_
  refine reg_nil ?_
  refine seq_n ?_
  refine wc_seq ?_
  refine wc_region ?_
  refine reg_quiet rfl (step_C tab_ok (fun K hk => hk)) ?_
  refine reg_quiet rfl (load_box tab_ok rfl rfl ⟨_, rfl, rfl⟩ rfl) ?_
  refine reg_new (append_empty (s := 1) (enc := encU8) (ys := y.bytes) tab_ok rfl rfl rfl rfl (.inr rfl) hp hlen hbb (src_arr (by decide) rfl hp)) rfl ?_
  refine reg_quiet rfl (step_C tab_ok (fun K hk => hk)) ?_
  refine reg_nil ?_
  refine seq_n ?_
  refine wc_seq ?_
  refine wc_region ?_
  refine reg_quiet rfl (step_C tab_ok (fun K hk => hk)) ?_
  refine reg_quiet rfl (step_C tab_ok (fun K hk => hk)) ?_
  refine reg_store (store_row tab_ok rfl rfl rfl ⟨_, ⟨_, ⟨rfl, rfl, rfl⟩, rfl⟩, rfl⟩ rfl) ?_
  refine reg_nil ?_
  refine seq_n ?_
  refine wc_seq ?_
  refine wc_draw (by kernel_rfl) ?_
  refine dreg_q [4] [72, 144] rfl (load_box tab_ok rfl rfl rfl rfl) ?_
  refine dreg_q [7] [112] rfl (load_box tab_ok rfl rfl rfl rfl) ?_
  refine dreg_q [3] [64] rfl (load_box tab_ok rfl rfl rfl rfl) ?_
  refine dreg_q [33] [] rfl (call_r hSz rfl rfl (arg_e arg_nil) (.inl rfl) (fun _ => rfl)) ?_
  refine dreg_w2 [31, 32, 34] [144] rfl (call_h [(0, some 144)] hDy rfl rfl rfl (arg_yO rfl rfl (arg_e (arg_e arg_nil))) ⟨⟨rfl, rfl, _, _, rfl, rfl, .refl _⟩, trivial⟩ rfl rfl (.inl rfl) rfl rfl) ?_
  refine dreg_q [35] [] rfl (step_C tab_ok (fun K hk => hk)) ?_
  refine dreg_q [30] [] rfl (step_C tab_ok (fun K hk => hk)) ?_
  refine dreg_q [30] [] rfl (step_C tab_ok (fun K hk => hk)) ?_
  refine dreg_w [] [] rfl (step_C tab_ok (fun K hk => hk)) ?_
  refine dreg_s [9, 36] [248] (store_row tab_ok rfl rfl rfl ⟨_, ⟨rfl, rfl, rfl⟩, rfl⟩ rfl) ?_
  refine dreg_q [37] [] rfl (step_C tab_ok (fun K hk => hk)) ?_
  refine dreg_end (by kernel_rfl) ?_
  refine seq_n ?_
  refine wc_seq ?_
  refine wc_draw (by kernel_rfl) ?_
  refine dreg_q [5] [80] rfl (load_box tab_ok rfl rfl rfl rfl) ?_
  refine dreg_q [7] [112] rfl (load_box tab_ok rfl rfl rfl rfl) ?_
  refine dreg_q [3] [64] rfl (load_box tab_ok rfl rfl rfl rfl) ?_
  refine dreg_q [41] [] rfl (call_r hSz rfl rfl (arg_e arg_nil) (.inl rfl) (fun _ => rfl)) ?_
  refine dreg_q [39, 40, 42] [] rfl (call_r hDz rfl rfl (arg_e (arg_e (arg_e arg_nil))) (.inl rfl) (fun _ => rfl)) ?_
  refine dreg_q [43] [] rfl (step_C tab_ok (fun K hk => hk)) ?_
  refine dreg_q [38] [] rfl (step_C tab_ok (fun K hk => hk)) ?_
  refine dreg_q [38] [] rfl (step_C tab_ok (fun K hk => hk)) ?_
  refine dreg_w [] [] rfl (step_C tab_ok (fun K hk => hk)) ?_
  refine dreg_s [11, 44] [336] (store_row tab_ok rfl rfl rfl ⟨_, ⟨rfl, rfl, rfl⟩, rfl⟩ rfl) ?_
  refine dreg_q [45] [] rfl (step_C tab_ok (fun K hk => hk)) ?_
  refine dreg_end (by kernel_rfl) ?_
  refine seq_n ?_
  refine wc_seq ?_
  refine wc_region ?_
  refine reg_quiet rfl (load_box tab_ok rfl rfl rfl rfl) ?_
  refine reg_quiet rfl (call_r hRef rfl rfl (arg_e arg_nil) (.inl rfl) (fun _ => rfl)) ?_
  refine reg_new (step_C tab_ok (fun K hk => hk)) rfl ?_
  refine reg_store (store_row tab_ok rfl rfl rfl ⟨_, ⟨rfl, rfl, rfl⟩, rfl⟩ rfl) ?_
  refine reg_nil ?_
  refine seq_n ?_
  refine wc_seq ?_
  refine wc_region ?_
  refine reg_quiet rfl (load_box tab_ok rfl rfl rfl rfl) ?_
  refine reg_quiet rfl (load_box tab_ok rfl rfl rfl rfl) ?_
  refine reg_new2 (call_h [(0, some 144)] hRy rfl rfl rfl (arg_yO rfl rfl (arg_e arg_nil)) ⟨⟨rfl, rfl, _, _, rfl, rfl, .refl _⟩, trivial⟩ rfl rfl (.inl rfl) rfl rfl) rfl ?_
  refine reg_quiet rfl (step_C tab_ok (fun K hk => hk)) ?_
  refine reg_quiet rfl (step_C tab_ok (fun K hk => hk)) ?_
  refine reg_quiet rfl (step_C tab_ok (fun K hk => hk)) ?_
  refine reg_new (step_C tab_ok (fun K hk => hk)) rfl ?_
  refine reg_store (store_row tab_ok rfl rfl rfl ⟨_, ⟨rfl, rfl, rfl⟩, rfl⟩ rfl) ?_
  refine reg_quiet rfl (step_C tab_ok (fun K hk => hk)) ?_
  refine reg_nil ?_
  refine seq_n ?_
  refine wc_seq ?_
  refine wc_region ?_
  refine reg_quiet rfl (load_box tab_ok rfl rfl rfl rfl) ?_
  refine reg_quiet rfl (load_box tab_ok rfl rfl rfl rfl) ?_
  refine reg_quiet rfl (call_r hRz rfl rfl (arg_e (arg_e arg_nil)) (.inl rfl) (fun _ => rfl)) ?_
  refine reg_quiet rfl (step_C tab_ok (fun K hk => hk)) ?_
  refine reg_quiet rfl (step_C tab_ok (fun K hk => hk)) ?_
  refine reg_quiet rfl (step_C tab_ok (fun K hk => hk)) ?_
  refine reg_new (step_C tab_ok (fun K hk => hk)) rfl ?_
  refine reg_store (store_row tab_ok rfl rfl rfl ⟨_, ⟨rfl, rfl, rfl⟩, rfl⟩ rfl) ?_
  refine reg_quiet rfl (step_C tab_ok (fun K hk => hk)) ?_
  refine reg_nil ?_
  refine seq_n ?_
  refine wc_seq ?_
  refine wc_seq ?_
  refine wc_region ?_
  refine reg_quiet rfl (step_C tab_ok (fun K hk => hk)) ?_
  refine reg_nil ?_
  refine seq_n ?_
  refine wc_block ?_
  refine wc_inv (fun i : Nat => ⟨[(18, .int .i64 i), (8, .own 72 0 y.bytes.length 1 none), (3, .ptr 64 []), (4, .ptr 65 []), (7, .ptr 66 []), (9, .ptr 67 []), (11, .ptr 68 []), (13, .ptr 69 []), (14, .ptr 70 []), (16, .ptr 71 [])], [(64, some (.box 24 (.d (encX x)))), (65, some (.box 39 (.acons (.d (u8s y.kind)) (.acons (.d (u8s y.sector)) (.acons (.d (u8s y.back)) (.acons (.own 72 0 y.bytes.length 1 none) (.d .nil))))))), (66, some (.box 27 (.d (encDk d)))), (67, some (.box 27 (.d (encDk da)))), (68, some (.box 27 (.d (encDk db)))), (69, some (.box 34 (.d (encRD L)))), (70, some (.box 34 (.d (encRD LA)))), (71, some (.box 34 (.d (encRD LB)))), (72, some (rowU false (incK y.bytes i)))], 80, Try.f4.ntmps, 64⟩) (fun i => i ≤ y.bytes.length) (fun i => y.bytes.length - i) 0 [(64, some 64), (65, some 72), (66, some 112), (67, some 248), (68, some 336), (69, some 376), (70, some 440), (71, some 512), (72, some 144)] (Nat.zero_le _)
    (.of rfl rfl rfl rfl rfl ⟨⟨_, rfl, .refl _⟩, rfl, ⟨_, rfl, .refl _⟩, rfl, ⟨_, rfl, .refl _⟩, rfl, ⟨_, rfl, .refl _⟩, rfl, ⟨_, rfl, .refl _⟩, rfl, ⟨_, rfl, .refl _⟩, rfl, ⟨_, rfl, .refl _⟩, rfl, ⟨_, rfl, .refl _⟩, rfl, ⟨_, rfl, .refl _⟩, rfl, ⟨_, rfl, .refl _⟩, rfl, trivial⟩ ⟨⟨rfl, rfl, _, rfl, .refl _⟩, ⟨rfl, rfl, _, rfl, .refl _⟩, ⟨rfl, rfl, _, rfl, .refl _⟩, ⟨rfl, rfl, _, rfl, .refl _⟩, ⟨rfl, rfl, _, rfl, .refl _⟩, ⟨rfl, rfl, _, rfl, .refl _⟩, ⟨rfl, rfl, _, rfl, .refl _⟩, ⟨rfl, rfl, _, rfl, .refl _⟩, ⟨rfl, rfl, _, rfl, .of_eq (by rw [incK_zero]; rfl)⟩, trivial⟩) ?_
  intro i hi
  have hil := incK_len y.bytes i hi
  refine wc_of ?_
  refine wc_seq ?_
  refine wc_seq ?_
  refine wc_region ?_
  refine reg_quiet rfl (step_C tab_ok (fun K hk => hk)) ?_
  refine reg_quiet rfl (step_C tab_ok (fun K hk => hk)) ?_
  refine reg_quiet rfl (len_own tab_ok rfl rfl) ?_
  refine reg_quiet rfl (step_C tab_ok (fun K hk => hk)) ?_
  refine reg_nil ?_
  refine seq_n ?_
  refine wc_cond rfl (fun h3 => ?_) (fun h3 => ?_)
  · have hlt : i < y.bytes.length := by have := of_decide_eq_true h3; omega
    obtain ⟨c, hc0⟩ : ∃ c, y.bytes[i]? = some c := ⟨_, List.getElem?_eq_getElem hlt⟩
    have hc : (incK y.bytes i)[((i : Int)).toNat]? = some c := by rw [Int.toNat_natCast]; exact incK_get hc0
    have hset := incK_set hc0
    have hb0 := hbr c (List.mem_of_getElem? hc0)
    refine wc_skip ?_
    refine seq_n ?_
    refine wc_seq ?_
    refine wc_block ?_
    refine wc_region ?_
    refine reg_quiet rfl (step_C tab_ok (fun K hk => hk)) ?_
    refine reg_quiet rfl (step_C tab_ok (fun K hk => hk)) ?_
    refine reg_quiet rfl (index_own tab_ok rfl rfl rfl rfl rfl (by omega) (by omega)) ?_
    refine reg_quiet rfl (load_row (v := .int .u8 c) tab_ok rfl rfl ⟨rfl, c, hc, encU8 c, rfl, rfl⟩ rfl) ?_
    refine reg_quiet rfl (add_int (m := inc c) tab_ok rfl rfl rfl) ?_
    refine reg_quiet rfl (index_own tab_ok rfl rfl rfl rfl rfl (by omega) (by omega)) ?_
    refine reg_store (store_row tab_ok rfl rfl rfl ⟨rfl, c, inc c, hc, ⟨rfl, rfl, rfl⟩, rfl⟩ rfl) ?_
    refine reg_nil ?_
    refine blk_n ?_
    refine seq_n ?_
    refine wc_region ?_
    refine reg_quiet rfl (step_C tab_ok (fun K hk => hk)) ?_
    refine reg_quiet rfl (add_int tab_ok rfl rfl (wrap_i64 (by omega) (by omega))) ?_
    refine reg_quiet rfl (step_C tab_ok (fun K hk => hk)) ?_
    refine reg_nil ?_
    refine loop_n (i + 1) [(64, some 64), (65, some 65), (66, some 66), (67, some 67), (68, some 68), (69, some 69), (70, some 70), (71, some 71), (72, some 72)] (show i + 1 ≤ y.bytes.length from hlt) (show y.bytes.length - (i + 1) < y.bytes.length - i by omega) ?_
    exact .of rfl rfl rfl rfl rfl ⟨⟨_, rfl, .refl _⟩, rfl, ⟨_, rfl, .refl _⟩, rfl, ⟨_, rfl, .refl _⟩, rfl, ⟨_, rfl, .refl _⟩, rfl, ⟨_, rfl, .refl _⟩, rfl, ⟨_, rfl, .refl _⟩, rfl, ⟨_, rfl, .refl _⟩, rfl, ⟨_, rfl, .refl _⟩, rfl, ⟨_, rfl, .refl _⟩, rfl, ⟨_, rfl, .refl _⟩, rfl, trivial⟩ ⟨⟨rfl, rfl, _, rfl, .refl _⟩, ⟨rfl, rfl, _, rfl, .refl _⟩, ⟨rfl, rfl, _, rfl, .refl _⟩, ⟨rfl, rfl, _, rfl, .refl _⟩, ⟨rfl, rfl, _, rfl, .refl _⟩, ⟨rfl, rfl, _, rfl, .refl _⟩, ⟨rfl, rfl, _, rfl, .refl _⟩, ⟨rfl, rfl, _, rfl, .refl _⟩, ⟨rfl, rfl, _, rfl, .of_eq (by rw [← hset]; rfl)⟩, trivial⟩
  · obtain rfl : i = y.bytes.length := by have := of_decide_eq_false h3; omega
    refine wc_exit ?_
    refine seq_x ?_
    refine loop_x ?_
    refine blk_x ?_
    refine seq_n ?_
    refine wc_seq ?_
    refine wc_draw (by kernel_rfl) ?_
    refine dreg_q [4] [65, 72] rfl (step_C tab_ok (fun K hk => hk)) ?_
    refine dreg_q [72] [65, 72] rfl (load_box tab_ok rfl rfl rfl rfl) ?_
    refine dreg_q [73] [] rfl (conv_int (m := y.sector) tab_ok rfl rfl rfl hws) ?_
    refine dreg_q [3] [64] rfl (load_box tab_ok rfl rfl rfl rfl) ?_
    refine dreg_q [75] [] rfl (call_r hSz rfl rfl (arg_e arg_nil) (.inl rfl) (fun _ => rfl)) ?_
    refine dreg_q [74, 76] [] rfl (rem_to tab_ok rfl rfl (by omega) hse) ?_
    refine dreg_q [77] [] rfl (step_C tab_ok (fun K hk => hk)) ?_
    refine dreg_end (by kernel_rfl) ?_
    refine seq_n ?_
    refine wc_seq ?_
    refine wc_region ?_
    refine reg_quiet rfl (load_box tab_ok rfl rfl rfl rfl) ?_
    refine reg_quiet rfl (step_C tab_ok (fun K hk => hk)) ?_
    refine reg_quiet rfl (call_r hRd rfl rfl (arg_e (arg_e arg_nil)) (.inl rfl) (fun _ => rfl)) ?_
    refine reg_quiet rfl (step_C tab_ok (fun K hk => hk)) ?_
    refine reg_quiet rfl (step_C tab_ok (fun K hk => hk)) ?_
    refine reg_quiet rfl (step_C tab_ok (fun K hk => hk)) ?_
    refine reg_quiet rfl (step_C tab_ok (fun K hk => hk)) ?_
    refine reg_quiet rfl (step_C tab_ok (fun K hk => hk)) ?_
    refine reg_nil ?_
    refine seq_n ?_
    refine wc_seq ?_
    refine wc_seq ?_
    refine wc_region ?_
    refine reg_quiet rfl (step_C tab_ok (fun K hk => hk)) ?_
    refine reg_quiet rfl (step_C tab_ok (fun K hk => hk)) ?_
    refine reg_quiet rfl (load_box tab_ok rfl rfl rfl rfl) ?_
    refine reg_quiet rfl (step_C tab_ok (fun K hk => hk)) ?_
    refine reg_quiet rfl (call_r hLast rfl rfl (arg_e (arg_e arg_nil)) (.inl rfl) (fun _ => rfl)) ?_
    refine reg_quiet rfl (call_r hCon rfl rfl (arg_e (arg_e (arg_e arg_nil))) (.inl rfl) (fun _ => rfl)) ?_
    refine reg_quiet rfl (step_C tab_ok (fun K hk => hk)) ?_
    refine reg_nil ?_
    refine seq_n ?_
    refine wc_false rfl rfl ?_
    refine wc_skip ?_
    refine seq_n ?_
    refine wc_seq ?_
    refine wc_seq ?_
    refine wc_region ?_
    refine reg_quiet rfl (step_C tab_ok (fun K hk => hk)) ?_
    refine reg_nil ?_
    refine seq_n ?_
    refine wc_block ?_
    refine wc_inv (fun j : Nat => ⟨[(22, .int .i64 j), (20, .d (.sc nil_)), (7, .ptr 66 []), (9, .ptr 67 []), (11, .ptr 68 []), (13, .ptr 69 []), (14, .ptr 70 []), (16, .ptr 71 [])], [(66, some (.box 27 (.d (encDk d)))), (67, some (.box 27 (.d (encDk da)))), (68, some (.box 27 (.d (encDk db)))), (69, some (.box 34 (.d (encRD L)))), (70, some (.box 34 (.d (encRD LA)))), (71, some (.box 34 (.d (encRD LB))))], 80, Try.f4.ntmps, 64⟩) (fun j => j ≤ 0) (fun j => 0 - j) 0 [(66, some 66), (67, some 67), (68, some 68), (69, some 69), (70, some 70), (71, some 71)] (Nat.zero_le _)
      (.of rfl rfl rfl rfl rfl ⟨⟨_, rfl, .refl _⟩, rfl, ⟨_, rfl, .refl _⟩, rfl, ⟨_, rfl, .refl _⟩, rfl, ⟨_, rfl, .refl _⟩, rfl, ⟨_, rfl, .refl _⟩, rfl, ⟨_, rfl, .refl _⟩, rfl, ⟨_, rfl, .refl _⟩, rfl, ⟨_, rfl, .refl _⟩, rfl, trivial⟩ ⟨⟨rfl, rfl, _, rfl, .refl _⟩, ⟨rfl, rfl, _, rfl, .refl _⟩, ⟨rfl, rfl, _, rfl, .refl _⟩, ⟨rfl, rfl, _, rfl, .refl _⟩, ⟨rfl, rfl, _, rfl, .refl _⟩, ⟨rfl, rfl, _, rfl, .refl _⟩, trivial⟩) ?_
    intro j hj
    obtain rfl : j = 0 := by omega
    refine wc_of ?_
    refine wc_seq ?_
    refine wc_seq ?_
    refine wc_region ?_
    refine reg_quiet rfl (step_C tab_ok (fun K hk => hk)) ?_
    refine reg_quiet rfl (step_C tab_ok (fun K hk => hk)) ?_
    refine reg_quiet rfl (len_nil tab_ok rfl rfl) ?_
    refine reg_quiet rfl (step_C tab_ok (fun K hk => hk)) ?_
    refine reg_nil ?_
    refine seq_n ?_
    refine wc_false rfl rfl ?_
    refine wc_exit ?_
    refine seq_x ?_
    refine loop_x ?_
    refine blk_x ?_
    refine seq_n ?_
    refine wc_seq ?_
    refine wc_draw (by kernel_rfl) ?_
    refine dreg_q [7] [66] rfl (load_box tab_ok rfl rfl rfl rfl) ?_
    refine dreg_q [13] [69] rfl (load_box tab_ok rfl rfl rfl rfl) ?_
    refine dreg_q [103, 104] [] rfl (call_r q1 rfl rfl (arg_e (arg_e arg_nil)) (.inl rfl) (fun _ => rfl)) ?_
    refine dreg_q [9] [67] rfl (load_box tab_ok rfl rfl rfl rfl) ?_
    refine dreg_q [14] [70] rfl (load_box tab_ok rfl rfl rfl rfl) ?_
    refine dreg_q [106, 107] [] rfl (call_r q2 rfl rfl (arg_e (arg_e arg_nil)) (.inl rfl) (fun _ => rfl)) ?_
    refine dreg_q [105, 108] [] rfl (mul_int (m := 1) tab_ok rfl rfl rfl) ?_
    refine dreg_q [11] [68] rfl (load_box tab_ok rfl rfl rfl rfl) ?_
    refine dreg_q [16] [71] rfl (load_box tab_ok rfl rfl rfl rfl) ?_
    refine dreg_q [110, 111] [] rfl (call_r q3 rfl rfl (arg_e (arg_e arg_nil)) (.inl rfl) (fun _ => rfl)) ?_
    refine dreg_q [109, 112] [] rfl (mul_int (m := 1) tab_ok rfl rfl rfl) ?_
    refine dreg_q [113] [] rfl (step_C tab_ok (fun K hk => hk)) ?_
    refine dreg_q [114] [] rfl (step_C tab_ok (fun K hk => hk)) ?_
    refine dreg_onq [115] [] rfl rfl rfl rfl (call_r lives_is rfl rfl arg_nil (.inl rfl) (fun _ => rfl)) ?_
    refine dreg_q [115, 116] [] rfl (pick_T tab_ok rfl rfl rfl) ?_
    refine dreg_q [117] [] rfl (step_C tab_ok (fun K hk => hk)) ?_
    refine dreg_end (by kernel_rfl) ?_
    refine seq_n ?_
    refine wc_ret ?_
    exact ⟨trivial, [], .of rfl rfl rfl rfl rfl ⟨⟨_, rfl, AVLe.of_eq rfl⟩, rfl, trivial⟩ trivial⟩
end Go.Proofs.Ytfmemklkkmiicaa

/- DisksValues: the law. -/
namespace Go.Proofs.Ytfmemklkkmiicaa
open Go.Eng
theorem doO_is {N j : Nat} {d : Dk} {M : List Vs} (h : Rep N j d M) (o : Opr) (ho : OpOk o) (hp : 0 < o.bytes.length) : FnIs Try.prog 13 [yO o o.bytes.length, .d (encDk d), .d (i6 N)] [(0, rowU false o.bytes)] (tup2 (encDk (stepD N o d)) (i6 (errM o M))) [(0, rowU false o.bytes)] := by
  obtain ⟨hs, hse⟩ := sec_lt o ho h.nb.1
  have hA := h.at hs
  have hv := h.v _ hs
  have hj := h.jb
  have hl := h.vlen hs
  unfold stepD errM
  rw [h.l, hv]
  have hk0 : 0 ≤ o.kind.tmod 3 := Int.tmod_nonneg _ ho.k.1
  have hk3 : o.kind.tmod 3 < 3 := Int.tmod_lt_of_pos _ (by omega)
  unfold chg
  by_cases k0 : o.kind.tmod 3 = 0
  · rw [if_pos k0]
    by_cases hb : 256 < (o.bytes.length : Int)
    · rw [if_pos hb, if_neg (by decide)]
      exact doO_wx o o.bytes false ho d _ N _ h.nb hse k0 (writeO_long d _ o.bytes false _ _ hA (decide_eq_true hb))
    · rw [if_neg hb, if_pos rfl]
      exact doO_w o o.bytes false ho d _ N _ h.nb hse k0 (writeO_ok d _ o.bytes false _ _ hA hp (decide_eq_false hb))
  · rw [if_neg k0]
    by_cases k1 : o.kind.tmod 3 = 1
    · rw [if_pos k1, if_pos rfl]
      exact doO_e o o.bytes false ho d _ N _ h.nb hse k1 (erase_ok d _ _ _ hA)
    · rw [if_neg k1]
      have k2 : o.kind.tmod 3 = 2 := by omega
      have b0 : 0 ≤ o.back.tmod 8 := Int.tmod_nonneg _ ho.b.1
      have b8 : o.back.tmod 8 < 8 := Int.tmod_lt_of_pos _ (by omega)
      have hbk : o.back.tmod 8 = ((o.back.tmod 8).toNat : Int) := by omega
      by_cases hb : ((verAt M (sec o N)).length : Int) < o.back.tmod 8
      · rw [if_pos hb, if_neg (by decide)]
        exact doO_rx o o.bytes false ho d zeroK N _ h.nb hse k2 _ hbk (by omega) (replay_none d _ _ _ _ hA (decide_eq_false (by omega)) (decide_eq_true (by omega)))
      · rw [if_neg hb, if_pos rfl]
        exact doO_r o o.bytes false ho d _ N _ h.nb hse k2 _ hbk (by omega) (replay_ok d _ _ _ _ hA (by omega))
theorem refO_is {N j : Nat} {d : Dk} {M : List Vs} (h : Rep N j d M) (o : Opr) (ho : OpOk o) (hp : 0 < o.bytes.length) : FnIs Try.prog 14 [yO o o.bytes.length, .d (encRD (refL M))] [(0, rowU false o.bytes)] (tup2 (encRD (refL (stepM o M))) (i6 (errM o M))) [(0, rowU false o.bytes)] := by
  obtain ⟨hs, hse⟩ := sec_lt o ho h.nb.1
  have hj := h.jb
  have hl := h.vlen hs
  have hrl : (refL M).length = N := by simp [refL, h.l]
  have hsl : sec o N < M.length := by rw [h.l]; exact hs
  have hget := refL_get hsl
  have hgeti : (refL M)[((sec o N : Int)).toNat]? = some (hist (verAt M (sec o N))) := by rw [Int.toNat_natCast]; exact hget
  have hse' : o.sector.tmod ((refL M).length : Int) = (sec o N : Int) := by rw [hrl]; exact hse
  have hnb : 1 ≤ (refL M).length ∧ (refL M).length ≤ 10922 := by rw [hrl]; exact h.nb
  have hpos : ∀ l ∈ refL M, 0 < l.length ∧ l.length ≤ 1000000 := fun l hm => by
    have := refL_pos h.all hm
    omega
  have hW : ∀ x : Ver, FnIs Try.prog 32 [.d (encRD (refL M)), .d (i6 (sec o N)), .d (encV x)] [] (.d (encRD (refL (M.set (sec o N) (x :: verAt M (sec o N)))))) [] := fun x => by
    have := rwith_is (refL M) (sec o N) x hnb.2 hpos
    rw [refL_set hsl] at this
    exact this
  unfold stepM errM
  rw [h.l]
  have hk0 : 0 ≤ o.kind.tmod 3 := Int.tmod_nonneg _ ho.k.1
  have hk3 : o.kind.tmod 3 < 3 := Int.tmod_lt_of_pos _ (by omega)
  unfold chg
  by_cases k0 : o.kind.tmod 3 = 0
  · rw [if_pos k0]
    by_cases hb : 256 < (o.bytes.length : Int)
    · rw [if_pos hb, if_neg (by decide)]
      exact refO_wx o o.bytes false hp ho _ [] _ hnb hse' k0 (decide_eq_true hb)
    · rw [if_neg hb, if_pos rfl]
      exact refO_w o o.bytes false hp ho _ _ _ hnb hse' k0 (decide_eq_false hb) (hW _)
  · rw [if_neg k0]
    by_cases k1 : o.kind.tmod 3 = 1
    · rw [if_pos k1, if_pos rfl]
      exact refO_e o o.bytes false hp ho _ _ _ hnb hse' k1 (hW _)
    · rw [if_neg k1]
      have k2 : o.kind.tmod 3 = 2 := by omega
      have b0 : 0 ≤ o.back.tmod 8 := Int.tmod_nonneg _ ho.b.1
      have b8 : o.back.tmod 8 < 8 := Int.tmod_lt_of_pos _ (by omega)
      have hbk : o.back.tmod 8 = ((o.back.tmod 8).toNat : Int) := by omega
      have hhl := hist_len (verAt M (sec o N))
      by_cases hb : ((verAt M (sec o N)).length : Int) < o.back.tmod 8
      · rw [if_pos hb, if_neg (by decide)]
        exact refO_rx o o.bytes false hp ho _ [] _ hnb hse' k2 _ hbk (by omega) (rback_no _ _ _ _ (by omega) (by omega) hgeti (decide_eq_true (by omega)))
      · rw [if_neg hb, if_pos rfl]
        refine refO_r o o.bytes false hp ho _ _ _ hnb hse' k2 _ hbk (by omega) _ (rback_yes _ _ _ _ (topV ((verAt M (sec o N)).drop (o.back.tmod 8).toNat)) (by omega) (by omega) hgeti (decide_eq_false (by omega)) ?_) (hW _)
        have := hist_get (verAt M (sec o N)) (o.back.tmod 8).toNat (by omega)
        rw [show (((hist (verAt M (sec o N))).length : Int) - 1 - ((o.back.tmod 8).toNat : Int)).toNat = (verAt M (sec o N)).length - (o.back.tmod 8).toNat by omega]
        exact this
theorem values_is (x : Int × List Opr) (y z : Opr) (h : 0 ≤ x.1 ∧ x.1 ≤ 255) (hl : ∀ o ∈ x.2, OpOk o) (hy : OpOk y) (hz : OpOk z) (hyl : y.bytes.length ≤ 140737488355328) : FnIs Try.prog 4 [.d (encX x), .d (encOpr y), .d (encOpr z)] [] (.bool true) [] := by
  obtain ⟨h1, h2, -⟩ := size_ok h
  obtain ⟨N, hN⟩ : ∃ N, N = sizeN x.1 := ⟨_, rfl⟩
  have hOf := of_is x.1 x.2 h hl
  have hRef := refOf_is x.1 x.2 h hl
  have hSz := sizeL_is x.1 x.2 h
  rw [← hN] at h1 h2 hOf hRef hSz
  have rep := rep_run (N := N) ⟨h1, by omega⟩ x.2 hl (min x.2.length 60) (by omega)
  obtain ⟨d, hd⟩ : ∃ d, d = runD N x.2 (min x.2.length 60) := ⟨_, rfl⟩
  obtain ⟨M, hM⟩ : ∃ M, M = runM N x.2 (min x.2.length 60) := ⟨_, rfl⟩
  obtain ⟨j, hj⟩ : ∃ j, j = min x.2.length 60 := ⟨_, rfl⟩
  have hj60 : j ≤ 60 := by omega
  rw [← hd, ← hM, ← hj] at rep
  rw [← hd] at hOf
  rw [← hM] at hRef
  have ry := rep.step (by omega) y hy
  have rz := rep.step (by omega) z hz
  obtain ⟨hs, hse⟩ := sec_lt y hy (N := N) h1
  have hA := ry.at hs
  have hLast := ry.last hs
  have hvb := ry.b _ (ry.vmem hs)
  have key : (∃ b u, verAt (stepM y M) (sec y N) = ⟨true, b⟩ :: u ∧ 0 < b.length) ∨ (∃ u, verAt (stepM y M) (sec y N) = ⟨true, []⟩ :: u) ∨ (∃ vb, contR (verAt (stepM y M) (sec y N)) = tup2 (.sc nil_) (i6 11) ∧ topV (verAt (stepM y M) (sec y N)) = ⟨false, vb⟩) := by
    match hv : verAt (stepM y M) (sec y N) with
    | [] => exact .inr (.inr ⟨[], rfl, rfl⟩)
    | ⟨false, b⟩ :: u => exact .inr (.inr ⟨b, rfl, rfl⟩)
    | ⟨true, []⟩ :: u => exact .inr (.inl ⟨u, rfl⟩)
    | ⟨true, c :: b⟩ :: u => exact .inl ⟨c :: b, u, rfl, by simp⟩
  cases hb : y.bytes with
  | nil =>
    obtain ⟨yk, ysc, yb, yl⟩ := y
    simp only at hb
    subst hb
    have hDy := do_is rep _ hy
    have hRy := ref_is rep _ hy
    rcases key with ⟨b, u, hv, hpb⟩ | ⟨u, hv⟩ | ⟨vb, hv, ht⟩
    · rw [hv] at hA hLast hvb
      have hlb := hvb ⟨true, b⟩ (by simp)
      simp only at hlb
      exact val_eo x yk ysc yb z hy hz N _ ⟨h1, h2⟩ hse d _ _ _ _ _ _ _ hSz hOf hRef (do_is rep z hz) (ref_is rep z hz) (equal_is rep) (equal_is ry) (equal_is rz) hDy hRy b hpb (by omega) (readO_ok _ _ _ b u hA hpb (by omega)) hLast
    · have hRd := read_ok _ _ _ _ hA
      rw [hv] at hRd hLast
      exact val_ea x yk ysc yb z hy hz N _ ⟨h1, h2⟩ hse d _ _ _ _ _ _ _ hSz hOf hRef (do_is rep z hz) (ref_is rep z hz) (equal_is rep) (equal_is ry) (equal_is rz) hDy hRy hRd hLast (content_yes [])
    · have hRd := read_ok _ _ _ _ hA
      rw [hv] at hRd
      rw [ht] at hLast
      exact val_en x yk ysc yb z hy hz N _ ⟨h1, h2⟩ hse d _ _ _ _ _ _ _ hSz hOf hRef (do_is rep z hz) (ref_is rep z hz) (equal_is rep) (equal_is ry) (equal_is rz) hDy hRy vb hRd hLast (content_no vb)
  | cons c0 l0 =>
    have hp : 0 < y.bytes.length := by rw [hb]; simp
    have hDy := doO_is rep y hy hp
    have hRy := refO_is rep y hy hp
    rcases key with ⟨b, u, hv, hpb⟩ | ⟨u, hv⟩ | ⟨vb, hv, ht⟩
    · rw [hv] at hA hLast hvb
      have hlb := hvb ⟨true, b⟩ (by simp)
      simp only at hlb
      exact val_no x y z hy hz N _ ⟨h1, h2⟩ hse d _ _ _ _ _ _ _ hSz hOf hRef (do_is rep z hz) (ref_is rep z hz) (equal_is rep) (equal_is ry) (equal_is rz) hp (by simp only [maxLen]; omega) hyl (by rw [show r5.bytes = 1 from rfl]; omega) (fun _ _ => trivial) hDy hRy b hpb (by omega) (readO_ok _ _ _ b u hA hpb (by omega)) hLast
    · have hRd := read_ok _ _ _ _ hA
      rw [hv] at hRd hLast
      exact val_na x y z hy hz N _ ⟨h1, h2⟩ hse d _ _ _ _ _ _ _ hSz hOf hRef (do_is rep z hz) (ref_is rep z hz) (equal_is rep) (equal_is ry) (equal_is rz) hp (by simp only [maxLen]; omega) hyl (by rw [show r5.bytes = 1 from rfl]; omega) (fun _ _ => trivial) hDy hRy hRd hLast (content_yes [])
    · have hRd := read_ok _ _ _ _ hA
      rw [hv] at hRd
      rw [ht] at hLast
      exact val_nn x y z hy hz N _ ⟨h1, h2⟩ hse d _ _ _ _ _ _ _ hSz hOf hRef (do_is rep z hz) (ref_is rep z hz) (equal_is rep) (equal_is ry) (equal_is rz) hp (by simp only [maxLen]; omega) hyl (by rw [show r5.bytes = 1 from rfl]; omega) (fun _ _ => trivial) hDy hRy vb hRd hLast (content_no vb)
end Go.Proofs.Ytfmemklkkmiicaa

/- Disks: how many bytes a change may bear. -/
namespace Go.Proofs.Ytfmemklkkmiicaa
open Go.Eng Go.ChangeShapes
theorem bytes_small {H : Type} {en : TypeId × Value → H} {W : World} {X : Nat → Prop} {spare : Nat → Bool} {held : Bool} {fuel : Nat} {cs : List Value} {d : DataW H} {p : List MemPlace} (o : Opr) (h : DataW.trod en Try.prog W 0 spare held fuel 39 cs = some (d, p)) (he : Enc W X (encOpr o) cs)
    (hw : ∀ n ∈ d.weights Try.prog 39, n ≤ reachBytes) : o.bytes.length ≤ reachBytes := by
  obtain ⟨xs, n, _, hx, hcl, hxl, hf⟩ := DataW.trod_struct Try.underlying39 h
  obtain rfl : d = .agg (xs.map (·.1)) := (Prod.mk.inj hx).1
  have h3 := hf 3 _ rfl
  have hl4 : xs.length = 4 := hxl
  rw [List.getElem?_eq_getElem (show 3 < xs.length by omega)] at h3
  obtain ⟨q, hq⟩ : ∃ q, xs[3]'(by omega) = q := ⟨_, rfl⟩
  rw [hq] at h3
  have hmem : ∀ n ∈ q.1.weights Try.prog 37, n ≤ reachBytes := fun n hn => by
    refine hw n ?_
    have : (DataW.agg (xs.map (·.1))).weights Try.prog 39 = DataW.weightsEach Try.prog [5, 5, 5, 37] (xs.map (·.1)) := by
      rw [DataW.weights, Try.underlying39]
      rfl
    rw [this]
    refine DataW.weights_mem_each (j := 3) (t := 37) (d := q.1) rfl ?_ n hn
    rw [List.getElem?_map, List.getElem?_eq_getElem (show 3 < xs.length by omega), hq]
    rfl
  obtain ⟨c1, c2, rfl, ⟨rfl, _⟩, c3, c4, rfl, ⟨rfl, _⟩, c5, c6, rfl, ⟨rfl, _⟩, c7, c8, rfl, h7, rfl⟩ := he
  have hc7 : c7.length = 1 := Enc.len _ _ h7
  have ht : List.take (Try.prog.cellsOf 37) (List.drop 3 ([Value.int .u8 o.kind] ++ ([Value.int .u8 o.sector] ++ ([Value.int .u8 o.back] ++ (c7 ++ []))))) = c7 := by
    rw [show Try.prog.cellsOf 37 = 1 by kernel_rfl]
    simp [List.take_of_length_le, hc7]
  have h3 : DataW.trod en Try.prog W 0 spare held n 37 (List.take (Try.prog.cellsOf 37) (List.drop 3 ([Value.int .u8 o.kind] ++ ([Value.int .u8 o.sector] ++ ([Value.int .u8 o.back] ++ (c7 ++ [])))))) = some q := h3
  rw [ht] at h3
  rcases Go.Deep.open_slice Try.underlying37 h3 with ⟨h0, _⟩ | ⟨a, len, cap, m, n2, Dd, Pl, h0, _, hl, _, hmm, hqq, _⟩
  · rcases h7 with ⟨h7, _⟩ | ⟨a, c, h7, _⟩
    · rw [h7]; decide
    · rw [h0] at h7; cases h7
  · have hlm : len ≤ m := by rw [hmm]; split <;> omega
    rcases h7 with ⟨h7, h8⟩ | ⟨a', c', h7, _⟩
    · rw [h7]; decide
    · rw [h0] at h7
      injection h7 with h7 _
      injection h7 with _ h7 _
      rw [← h7]
      subst hqq
      have := hmem ((((List.range len).map Dd).length + ((List.range (m - len)).map fun j => Dd (len + j)).length) * Try.prog.bytesOf 5) (by
        rw [DataW.weights, Try.underlying37]
        exact List.mem_cons_self ..)
      rw [show Try.prog.bytesOf 5 = 1 by kernel_rfl] at this
      simp only [List.length_map, List.length_range, Nat.mul_one] at this
      omega
end Go.Proofs.Ytfmemklkkmiicaa

/- DisksValues: the walked law is the statement. -/
namespace Go.Proofs.Ytfmemklkkmiicaa
open Go.ChangeShapes Go.WideShapes Go.ChangeAt Go.RowKit Go.Eng
theorem weights_in {H : Type} {P : Program} {n : Nat} : ∀ {ts : List TypeId} {ds : List (DataW H)}, n ∈ DataW.weightsEach P ts ds → ∃ (j : Nat) (t : TypeId) (e : DataW H), ts[j]? = some t ∧ ds[j]? = some e ∧ n ∈ e.weights P t
  | t :: ts, d :: ds, h => by
    simp only [DataW.weightsEach, List.mem_append] at h
    rcases h with h | h
    · exact ⟨0, t, d, rfl, rfl, h⟩
    · obtain ⟨j, t', e, h1, h2, h3⟩ := weights_in h
      exact ⟨j + 1, t', e, by simpa using h1, by simpa using h2, h3⟩
  | [], _, h => by simp [DataW.weightsEach] at h
  | _ :: _, [], h => by simp [DataW.weightsEach] at h
theorem own : ownKnob Try.prog.godebug = none := by kernel_rfl
theorem laidOut : laidOutB Try.prog = true := by kernel_rfl
set_option maxRecDepth 100000 in
theorem lifted (os : Os) (started : os.Started) (H : Type) (enc : TypeId × Value → H) :
    ReturnsInHanded {} Try.checked os 4 .any (Rows.disksValuesSpec.pre6 enc Try.prog Try.f4 Rows.disksValuesRow.domain false) (Rows.disksValuesSpec.post enc Try.prog Try.f4 false true false false) := by
  refine returnsInHanded_of_change_sized (C := Try.checked) own started (by kernel_rfl) Try.func4
    (ChangeSpec.witness6 (enc := enc) (C := Try.checked) false ⟨#[], #[(.agg #[.int .u8 0, .slice none 0 0]), (.agg #[.int .u8 0, .int .u8 0, .int .u8 0, .slice none 0 0]), (.agg #[.int .u8 0, .int .u8 0, .int .u8 0, .slice none 0 0])], []⟩ 8 (by kernel_rfl) (by kernel_rfl) (by kernel_rfl) (by kernel_rfl)) ?_
  intro W base args ds gs before hval0 hW hcnd hwt0 _
  have hval : ∀ (j : Nat) t v, Try.f4.params[j]? = some t → args[j]? = some v → Value.okWide Try.prog W .any base t v := hval0
  have hW' := hW
  obtain ⟨p, q, hA0, hV, rfl, hfz, hnd⟩ := hW
  have hA : DataW.TrodAll enc Try.prog W 0 (fun _ => true) true Try.f4.params.toList args.toList ds p := hA0
  have hwt : (DataW.weightsEach Try.prog Try.f4.params.toList ds).all (· ≤ reachBytes) = true := by
    rw [List.all_eq_true] at hwt0 ⊢
    intro n hn
    obtain ⟨j, t, e, h1, h2, h3⟩ : ∃ (j : Nat) (t : TypeId) (e : DataW H), Try.f4.params.toList[j]? = some t ∧ ds[j]? = some e ∧ n ∈ e.weights Try.prog t := weights_in hn
    exact hwt0 n (DataW.weights_mem_each (j := j) (by rw [List.getElem?_append_left (List.getElem?_eq_some_iff.1 h1).1]; exact h1) (by rw [List.getElem?_append_left (List.getElem?_eq_some_iff.1 h2).1]; exact h2) n h3)
  rw [Try.params4] at hA hval hwt
  obtain ⟨v0, vs0, d0, ds0, p0, q0, hargs, rfl, rfl, h0, r0⟩ := trodAll_cons hA
  obtain ⟨v1, vs1, d1, ds1, p1, q1, rfl, rfl, rfl, h1, r1⟩ := trodAll_cons r0
  obtain ⟨v2, vs2, d2, ds2, p2, q2, rfl, rfl, rfl, h2, r2⟩ := trodAll_cons r1
  obtain ⟨rfl, rfl, rfl⟩ := trodAll_nil r2
  obtain rfl : args = #[v0, v1, v2] := Array.ext' (by simpa using hargs)
  obtain ⟨rfl, rfl⟩ := trodVars_none hV
  have k0 := h0
  have lt0 : ∀ x ∈ p0, x.block < W.heap.size := by obtain ⟨m, hm⟩ := k0; exact DataW.trod_lt m _ _ _ hm
  obtain ⟨fuel0, hfu0⟩ := h0
  obtain ⟨x0, e0, _, w0⟩ := opens_X H enc W _ _ fuel0 _ _ hfu0
  obtain ⟨cs0, hcs0, _⟩ := okWide_struct Try.underlying24 (hval 0 24 v0 rfl rfl)
  have rel0 : RelV (fun _ => none) W (fun _ => False) (.d (encX x0)) v0 := e0.relV ⟨fun _ => rfl, fun _ => ⟨cs0, hcs0⟩⟩
  have k1 := h1
  have lt1 : ∀ x ∈ p1, x.block < W.heap.size := by obtain ⟨m, hm⟩ := k1; exact DataW.trod_lt m _ _ _ hm
  obtain ⟨fuel1, hfu1⟩ := h1
  obtain ⟨x1, e1, _, w1⟩ := opens_Opr H enc W _ _ fuel1 _ _ hfu1
  have hb1 : x1.bytes.length ≤ 140737488355328 := by
    have := bytes_small x1 hfu1 e1 (fun n hn => by simpa using List.all_eq_true.1 hwt n (DataW.weights_mem_each (j := 1) rfl rfl n hn))
    have h2 := reachBytes_lt
    omega
  obtain ⟨cs1, hcs1, _⟩ := okWide_struct Try.underlying39 (hval 1 39 v1 rfl rfl)
  have rel1 : RelV (fun _ => none) W (fun _ => False) (.d (encOpr x1)) v1 := e1.relV ⟨fun _ => rfl, fun _ => ⟨cs1, hcs1⟩⟩
  have k2 := h2
  have lt2 : ∀ x ∈ p2, x.block < W.heap.size := by obtain ⟨m, hm⟩ := k2; exact DataW.trod_lt m _ _ _ hm
  obtain ⟨fuel2, hfu2⟩ := h2
  obtain ⟨x2, e2, _, w2⟩ := opens_Opr H enc W _ _ fuel2 _ _ hfu2
  obtain ⟨cs2, hcs2, _⟩ := okWide_struct Try.underlying39 (hval 2 39 v2 rfl rfl)
  have rel2 : RelV (fun _ => none) W (fun _ => False) (.d (encOpr x2)) v2 := e2.relV ⟨fun _ => rfl, fun _ => ⟨cs2, hcs2⟩⟩
  clear hA0 hval0
  refine (law_calls (values_is x0 x1 x2 w0.1 w0.2 w1 w2 hb1) (W := W) (args := #[v0, v1, v2]) ⟨v0, [v1, v2], rfl, ⟨rel0, trivial⟩, ⟨v1, [v2], rfl, ⟨rel1, trivial⟩, ⟨v2, [], rfl, ⟨rel2, trivial⟩, rfl⟩⟩⟩).mono fun e W' ⟨he, bel⟩ => ?_
  subst he
  exact ⟨_, rfl, _, _, _, [], _, [], hW', trodAll_mk1 (shut_bool Try.underlying4 _), (trodAll_cons_mk (Below.trod laidOut (by kernel_rfl) (of_decide_eq_true (by kernel_rfl)) k0 bel lt0) (trodAll_cons_mk (Below.trod laidOut (by kernel_rfl) (of_decide_eq_true (by kernel_rfl)) k1 bel lt1) (trodAll_cons_mk (Below.trod laidOut (by kernel_rfl) (of_decide_eq_true (by kernel_rfl)) k2 bel lt2) trodAll_mk0))), rfl, bel.frame _, fun h => by cases h⟩

theorem over : Rows.disksValuesRow.holds Try.pinned (OpenSpec.ofChange Rows.disksValuesSpec) :=
  OpenClaim.holds_of_wide 4 Try.f4 rfl rfl rfl rfl rfl rfl rfl ⟨rfl, rfl, rfl, rfl, rfl⟩ rfl rfl rfl rfl rfl (by kernel_rfl) Try.func4 (by kernel_rfl)
    (of_decide_eq_true (by kernel_rfl)) (by unfold Func.isWrapper; first | (rw [if_pos (by decide +kernel)]; kernel_rfl) | (rw [if_neg (by decide +kernel)]; exact ⟨rfl, rfl⟩))
    (fun os started H enc _ => lifted os started H enc)
theorem disksValues_holds : Rows.DisksValuesSaid := over
end Go.Proofs.Ytfmemklkkmiicaa
