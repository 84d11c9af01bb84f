/- Two disks are the same exactly if their contents are, whatever they were before. No condition. -/
import Derived.Test.YtfmemklkkmiicaaDC
import Derived.Test.YtfmemklkkmiicaaRows

set_option linter.unusedVariables false
set_option linter.unusedSimpArgs false

/- DisksOther: the law. -/
namespace Go.Proofs.Ytfmemklkkmiicaa
open Go.Eng
theorem refL_len (M : List Vs) : (refL M).length = M.length := by simp [refL]
theorem Rep.last {N j : Nat} {d : Dk} {M : List Vs} (h : Rep N j d M) {i : Nat} (hi : i < N) : FnIs Try.prog 20 [.d (encRD (refL M)), .d (i6 i)] [] (.d (encV (topV (verAt M i)))) [] := by
  have hiM : i < M.length := by rw [h.l]; exact hi
  have hv := h.vlen hi
  have hj := h.jb
  refine last_is (refL M) i (hist (verAt M i)) (topV (verAt M i)) (by rw [hist_len]; omega) (by rw [hist_len]; omega) (by rw [Int.toNat_natCast]; exact refL_get hiM) ?_
  have := hist_get (verAt M i) 0 (Nat.zero_le _)
  rw [show (((hist (verAt M i)).length : Int) - 1).toNat = (verAt M i).length - 0 by rw [hist_len]; omega]
  exact this
theorem other_is (z : Int) (ops : List Opr) (y : Opr) (t : Int) (h : 0 ≤ z ∧ z ≤ 255) (hl : ∀ o ∈ ops, OpOk o) (hy : OpOk y) (ht : 0 ≤ t ∧ t ≤ 255) : FnIs Try.prog 6 [.d (encX (z, ops)), .d (encOpr y), .d (u8s t)] [] (.bool true) [] := by
  obtain ⟨h1, h2, -⟩ := size_ok h
  obtain ⟨N, hN⟩ : ∃ N, N = sizeN z := ⟨_, rfl⟩
  have hOf := of_is z ops h hl
  have hRef := refOf_is z ops h hl
  rw [← hN] at h1 h2 hOf hRef
  have rep := rep_run (N := N) ⟨h1, by omega⟩ ops hl (min ops.length 60) (by omega)
  obtain ⟨d, hd⟩ : ∃ d, d = runD N ops (min ops.length 60) := ⟨_, rfl⟩
  obtain ⟨M, hM⟩ : ∃ M, M = runM N ops (min ops.length 60) := ⟨_, rfl⟩
  obtain ⟨j, hj⟩ : ∃ j, j = min ops.length 60 := ⟨_, rfl⟩
  have hj60 : j ≤ 60 := by omega
  rw [← hd, ← hM, ← hj] at rep
  rw [← hd] at hOf
  rw [← hM] at hRef
  have rep2 := rep.step (by omega) y hy
  obtain ⟨hs, hse⟩ := sec_lt y hy (N := N) h1
  have ti0 : 0 ≤ t.tmod (N : Int) := Int.tmod_nonneg _ ht.1
  have ti1 : t.tmod (N : Int) < N := Int.tmod_lt_of_pos _ (by omega)
  obtain ⟨i, hi⟩ : ∃ i : Nat, t.tmod (N : Int) = i := ⟨(t.tmod (N : Int)).toNat, by omega⟩
  have hiN : i < N := by omega
  obtain ⟨p, q, hpq, hcon⟩ := contR_ab (verAt (stepM y M) i)
  have hRead := read_ok _ i _ _ (rep2.at hiN)
  rw [hpq] at hRead
  have hsM : sec y N < M.length := by rw [rep.l]; exact hs
  by_cases he : errM y M = 0
  · -- the change was made
    have hst : stepM y M = M.set (sec y N) ((chg y (verAt M (sec y N))).2 :: verAt M (sec y N)) := by
      unfold stepM
      unfold errM at he
      rw [rep.l] at he ⊢
      rw [if_pos he]
    have hvs : verAt (stepM y M) (sec y N) = (chg y (verAt M (sec y N))).2 :: verAt M (sec y N) := by rw [hst, verAt_set hsM, if_pos rfl]
    have hA2 := rep2.at hs
    have hR := replay_ok _ (sec y N) 1 _ _ hA2 (by rw [hvs]; simp)
    have rep3 := rep2.put (by omega) hs (topV ((verAt (stepM y M) (sec y N)).drop 1)) (by
      rw [hvs]
      show (topV (verAt M (sec y N))).b.length ≤ 256
      cases hv : verAt M (sec y N) with
      | nil => simp [topV]
      | cons x l => exact rep.b _ (rep.vmem hs) x (by rw [hv]; simp)) (by
      rw [hvs]
      show (topV (verAt M (sec y N))).there = false → _
      cases hv : verAt M (sec y N) with
      | nil => intro _; rfl
      | cons x l => exact rep.a _ (rep.vmem hs) x (by rw [hv]; simp))
    obtain ⟨p2, q2, hpq2, hcon2⟩ := contR_ab (verAt ((stepM y M).set (sec y N) (topV ((verAt (stepM y M) (sec y N)).drop 1) :: verAt (stepM y M) (sec y N))) (sec y N))
    have hRd2 := read_ok _ (sec y N) _ _ (rep3.at hs)
    rw [hpq2] at hRd2
    rw [verAt_set (by rw [stepM_len]; exact hsM), if_pos rfl, hvs] at hcon2
    refine other_core z ops y t h hy ht N _ i hN ⟨h1, h2⟩ d _ _ _ _ _ hse hi p q p2 q2 (topV (verAt M i)) (topV (verAt M (sec y N))) hOf hRef (do_is rep y hy) (ref_is rep y hy) hRead (fun hne => ⟨rep.last hiN, ?_⟩) (fun hne => absurd he hne) (fun _ => ⟨hR, hRd2, rep.last hs, hcon2⟩)
    rw [hst, verAt_set hsM, if_neg hne] at hcon
    exact hcon
  · have hst : stepM y M = M := by
      unfold stepM
      unfold errM at he
      rw [if_neg he]
    refine other_core z ops y t h hy ht N _ i hN ⟨h1, h2⟩ d _ zeroK _ _ _ hse hi p q (.sc nil_) (.sc nil_) (topV (verAt M i)) noV hOf hRef (do_is rep y hy) (ref_is rep y hy) hRead (fun hne => ⟨rep.last hiN, ?_⟩) (fun _ => ?_) (fun e => absurd e he)
    · rw [hst] at hcon
      exact hcon
    · have := equal_is rep2
      rw [hst] at this
      exact this
end Go.Proofs.Ytfmemklkkmiicaa

/- Disks: Same, of the program and of the definition; DisksSame. -/
namespace Go.Proofs.Ytfmemklkkmiicaa
open Go.Eng
set_option maxHeartbeats 8000000
set_option maxRecDepth 4000
attribute [local irreducible] WC RegS RegD SeqQ BlkQ ScoQ RegK CutK Sat SatN FnIs LoopQ StepIs OpIs
/-- Two contents are the same. -/
def eqT (x y : Ver) : Bool := decide (x.there = y.there) && decide (strOf x.b = strOf y.b)
def eqU (A B : List Vs) (i : Nat) : Bool := eqT (topV (verAt A i)) (topV (verAt B i))
def sameM (A B : List Vs) : Bool := decide (A.length = B.length) && (List.range A.length).all (eqU A B)
theorem same_no {A B : List Vs} {i : Nat} (hi : i < A.length) (h : eqU A B i = false) : sameM A B = false := by
  rw [sameM, Bool.and_eq_false_iff]
  refine .inr ?_
  rw [List.all_eq_false]
  exact ⟨i, List.mem_range.2 hi, by rw [h]; simp⟩
theorem same_yes {A B : List Vs} (hl : A.length = B.length) (h : ∀ i, i < A.length → eqU A B i = true) : sameM A B = true := by
  rw [sameM, Bool.and_eq_true]
  refine ⟨decide_eq_true hl, ?_⟩
  rw [List.all_eq_true]
  exact fun i hi => h i (List.mem_range.1 hi)
theorem v_eq (x y : Ver) : EqOk Try.prog 2 51 (encV x) (encV y) (eqT x y) := by
  refine (eq_struct (P := Try.prog) Try.underlying51 (by kernel_rfl) rfl rfl (eqf_cons tab_ok rfl (by kernel_rfl) rfl rfl (eq_bool (P := Try.prog) Try.underlying4) rfl (eqf_cons tab_ok rfl (by kernel_rfl) rfl rfl (eq_string (P := Try.prog) Try.underlying9) rfl eqf_nil))).cast ?_
  simp [eqT]
theorem bytes_eq (x y : List Int) : FnIs Try.prog 40 [.d (.arr 1 encU8 x), .d (.arr 1 encU8 y)] [] (.bool (decide (strOf x = strOf y))) [] := by
  refine fnIs_of tab_ok Try.func40 rfl rfl rfl ?_
  refine wc_seq ?_
  refine wc_region ?_
  refine reg_quiet rfl (step_C tab_ok (fun K hk => hk)) ?_
  refine reg_nil ?_
  refine seq_n ?_
  refine wc_seq ?_
  refine wc_region ?_
  refine reg_quiet rfl (step_C tab_ok (fun K hk => hk)) ?_
  refine reg_quiet rfl (conv_bytes tab_ok rfl rfl rfl rfl) ?_
  refine reg_quiet rfl (step_C tab_ok (fun K hk => hk)) ?_
  refine reg_quiet rfl (conv_bytes tab_ok rfl rfl rfl rfl) ?_
  refine reg_quiet rfl (eql_str tab_ok rfl rfl rfl) ?_
  refine reg_quiet rfl (step_C tab_ok (fun K hk => hk)) ?_
  refine reg_nil ?_
  refine seq_n ?_
  refine wc_ret ?_
  exact ⟨trivial, [], .of rfl rfl rfl rfl rfl ⟨⟨_, rfl, AVLe.of_eq rfl⟩, rfl, trivial⟩ trivial⟩
/-- What Same needs of two contents. -/
theorem contR_pair (u v : Vs) (hu : (topV u).there = false → (topV u).b = []) (hv : (topV v).there = false → (topV v).b = []) : ∃ p q p2 q2 : D, ∃ e f : Int, contR u = tup2 p (i6 e) ∧ contR v = tup2 p2 (i6 f) ∧ q = i6 e ∧ q2 = i6 f ∧
    ((e ≠ f ∧ eqT (topV u) (topV v) = false) ∨ (e = f ∧ FnIs Try.prog 40 [.d p, .d p2] [] (.bool (eqT (topV u) (topV v))) [])) := by
  have nn : ∀ x y : List Int, FnIs Try.prog 40 [.d (.arx 1 encU8 x), .d (.arx 1 encU8 y)] [] (.bool (decide (strOf x = strOf y))) [] := fun x y =>
    FnIs.args_le (avs' := [.d (.arr 1 encU8 x), .d (.arr 1 encU8 y)]) ⟨⟨AVLe.d DLe.arx_arr rfl, fun _ _ => trivial⟩, ⟨AVLe.d DLe.arx_arr rfl, fun _ _ => trivial⟩, trivial⟩ (bytes_eq x y)
  rcases contR_two u with ⟨b, h1, h2⟩ | ⟨b, h1, h2⟩ <;> rcases contR_two v with ⟨b2, h3, h4⟩ | ⟨b2, h3, h4⟩
  · refine ⟨_, _, _, _, 0, 0, h1, h3, rfl, rfl, .inr ⟨rfl, ?_⟩⟩
    rw [h2, h4, show eqT ⟨true, b⟩ ⟨true, b2⟩ = decide (strOf b = strOf b2) by simp [eqT]]
    exact nn b b2
  · refine ⟨_, _, _, _, 0, 11, h1, h3, rfl, rfl, .inl ⟨by decide, ?_⟩⟩
    rw [h2, h4]; simp [eqT]
  · refine ⟨_, _, _, _, 11, 0, h1, h3, rfl, rfl, .inl ⟨by decide, ?_⟩⟩
    rw [h2, h4]; simp [eqT]
  · refine ⟨_, _, _, _, 11, 11, h1, h3, rfl, rfl, .inr ⟨rfl, ?_⟩⟩
    have e1 : b = [] := by have := hu (by rw [h2]); rw [h2] at this; exact this
    have e2 : b2 = [] := by have := hv (by rw [h4]); rw [h4] at this; exact this
    rw [h2, h4, e1, e2, show eqT ⟨false, []⟩ ⟨false, []⟩ = decide (strOf [] = strOf []) by simp [eqT]]
    exact FnIs.args_le (avs' := [.d (.arr 1 encU8 []), .d (.arr 1 encU8 [])]) ⟨⟨AVLe.d (DLe.nil_arr 1 encU8) rfl, fun _ _ => trivial⟩, ⟨AVLe.d (DLe.nil_arr 1 encU8) rfl, fun _ _ => trivial⟩, trivial⟩ (bytes_eq [] [])
theorem Rep.top {N j : Nat} {d : Dk} {M : List Vs} (h : Rep N j d M) {i : Nat} (hi : i < N) : (topV (verAt M i)).there = false → (topV (verAt M i)).b = [] := by
  cases hv : verAt M i with
  | nil => intro _; rfl
  | cons x l => exact h.a _ (h.vmem hi) x (by rw [hv]; simp)
theorem same_is {N N2 j j2 : Nat} {d d2 : Dk} {M M2 : List Vs} (r1 : Rep N j d M) (r2 : Rep N2 j2 d2 M2) : FnIs Try.prog 28 [.d (encDk d), .d (encDk d2)] [] (.bool (sameM M M2)) [] := by
  have hN := r1.nb
  by_cases hNN : N = N2
  · subst hNN
    have c0 : (!decide (d.n = d2.n)) = false := by rw [r1.n, r2.n]; simp
    refine fnIs_of tab_ok Try.func28 rfl rfl rfl ?_
    refine wc_seq ?_
    refine wc_region ?_
    refine reg_new (step_C tab_ok (fun K hk => hk)) rfl ?_
    refine reg_new (step_C tab_ok (fun K hk => hk)) rfl ?_
    refine reg_quiet rfl (step_C tab_ok (fun K hk => hk)) ?_
    refine reg_nil ?_
    refine seq_n ?_
    refine wc_seq ?_
    refine wc_seq ?_
    refine wc_region ?_
    refine reg_quiet rfl (step_C tab_ok (fun K hk => hk)) ?_
    refine reg_quiet rfl (load_box tab_ok rfl rfl ⟨_, rfl, rfl⟩ rfl) ?_
    refine reg_quiet rfl (step_C tab_ok (fun K hk => hk)) ?_
    refine reg_quiet rfl (load_box tab_ok rfl rfl ⟨_, rfl, rfl⟩ rfl) ?_
    refine reg_quiet rfl (step_C tab_ok (fun K hk => hk)) ?_
    refine reg_nil ?_
    refine seq_n ?_
    refine wc_false rfl (by assumption) ?_
    refine wc_skip ?_
    refine seq_n ?_
    refine wc_seq ?_
    refine wc_seq ?_
    refine wc_region ?_
    refine reg_quiet rfl (step_C tab_ok (fun K hk => hk)) ?_
    refine reg_quiet rfl (load_box tab_ok rfl rfl ⟨_, rfl, rfl⟩ rfl) ?_
    refine reg_quiet rfl (step_C tab_ok (fun K hk => hk)) ?_
    refine reg_nil ?_
    refine seq_n ?_
    refine wc_block ?_
    refine wc_inv (fun i : Nat => ⟨[(21, .int .i64 i), (20, .int .i64 d.n), (2, .ptr 64 []), (3, .ptr 65 [])], [(64, some (.box 27 (.d (encDk d)))), (65, some (.box 27 (.d (encDk d2))))], 72, Try.f28.ntmps, 64⟩) (fun i => i ≤ N ∧ ∀ k, k < i → eqU M M2 k = true) (fun i => N - i) 0 [(64, some 64), (65, some 72)] ⟨Nat.zero_le _, fun k hk => absurd hk (Nat.not_lt_zero _)⟩
      (.of rfl rfl rfl rfl rfl ⟨⟨_, rfl, .refl _⟩, rfl, ⟨_, rfl, .refl _⟩, rfl, ⟨_, rfl, .refl _⟩, rfl, ⟨_, rfl, .refl _⟩, rfl, trivial⟩ ⟨⟨rfl, rfl, _, rfl, .refl _⟩, ⟨rfl, rfl, _, rfl, .refl _⟩, trivial⟩) ?_
    rintro i ⟨hi, hall⟩
    refine wc_of ?_
    refine wc_seq ?_
    refine wc_region ?_
    refine reg_quiet rfl (step_C tab_ok (fun K hk => hk)) ?_
    refine reg_nil ?_
    refine seq_n ?_
    refine wc_seq ?_
    refine wc_cond rfl (fun h3 => ?_) (fun h3 => ?_)
    · have hlt : i < N := by have := of_decide_eq_true h3; have := r1.n; omega
      have a1 := r1.at hlt
      have a2 := r2.at hlt
      have hN1 := a1.new
      have hN2 := a2.new
      have hC1 := content_is _ a1.b
      have hC2 := content_is _ a2.b
      obtain ⟨p, q, p2, q2, e, f, g1, g2, _, _, hcase⟩ := contR_pair (verAt M i) (verAt M2 i) (r1.top hlt) (r2.top hlt)
      rw [g1] at hC1
      rw [g2] at hC2
      have hu : eqU M M2 i = eqT (topV (verAt M i)) (topV (verAt M2 i)) := rfl
      rcases hcase with ⟨hne, hf⟩ | ⟨he, hE⟩
      · have c1 : (!decide (e = f)) = true := by simp [hne]
        have hs := same_no (A := M) (B := M2) (i := i) (by rw [r1.l]; exact hlt) (by rw [hu, hf])
        rw [hs]
        refine wc_skip ?_
        refine seq_n ?_
        refine wc_seq ?_
        refine wc_block ?_
        refine wc_seq ?_
        refine wc_region ?_
        refine reg_quiet rfl (step_C tab_ok (fun K hk => hk)) ?_
        refine reg_quiet rfl (step_C tab_ok (fun K hk => hk)) ?_
        refine reg_nil ?_
        refine seq_n ?_
        refine wc_seq ?_
        refine wc_region ?_
        refine reg_quiet rfl (load_box tab_ok rfl rfl rfl rfl) ?_
        refine reg_quiet rfl (step_C tab_ok (fun K hk => hk)) ?_
        refine reg_quiet rfl (call_r hN1 rfl rfl (arg_e (arg_e arg_nil)) (.inl rfl) (fun _ => rfl)) ?_
        refine reg_quiet rfl (step_C tab_ok (fun K hk => hk)) ?_
        refine reg_quiet rfl (step_C tab_ok (fun K hk => hk)) ?_
        refine reg_quiet rfl (step_C tab_ok (fun K hk => hk)) ?_
        refine reg_quiet rfl (step_C tab_ok (fun K hk => hk)) ?_
        refine reg_quiet rfl (step_C tab_ok (fun K hk => hk)) ?_
        refine reg_nil ?_
        refine seq_n ?_
        refine wc_seq ?_
        refine wc_region ?_
        refine reg_quiet rfl (load_box tab_ok rfl rfl rfl rfl) ?_
        refine reg_quiet rfl (step_C tab_ok (fun K hk => hk)) ?_
        refine reg_quiet rfl (call_r hN2 rfl rfl (arg_e (arg_e arg_nil)) (.inl rfl) (fun _ => rfl)) ?_
        refine reg_quiet rfl (step_C tab_ok (fun K hk => hk)) ?_
        refine reg_quiet rfl (step_C tab_ok (fun K hk => hk)) ?_
        refine reg_quiet rfl (step_C tab_ok (fun K hk => hk)) ?_
        refine reg_quiet rfl (step_C tab_ok (fun K hk => hk)) ?_
        refine reg_quiet rfl (step_C tab_ok (fun K hk => hk)) ?_
        refine reg_nil ?_
        refine seq_n ?_
        refine wc_seq ?_
        refine wc_region ?_
        refine reg_quiet rfl (step_C tab_ok (fun K hk => hk)) ?_
        refine reg_quiet rfl (call_r hC1 rfl rfl (arg_e arg_nil) (.inl rfl) (fun _ => rfl)) ?_
        refine reg_quiet rfl (step_C tab_ok (fun K hk => hk)) ?_
        refine reg_quiet rfl (step_C tab_ok (fun K hk => hk)) ?_
        refine reg_quiet rfl (step_C tab_ok (fun K hk => hk)) ?_
        refine reg_quiet rfl (step_C tab_ok (fun K hk => hk)) ?_
        refine reg_quiet rfl (step_C tab_ok (fun K hk => hk)) ?_
        refine reg_nil ?_
        refine seq_n ?_
        refine wc_seq ?_
        refine wc_region ?_
        refine reg_quiet rfl (step_C tab_ok (fun K hk => hk)) ?_
        refine reg_quiet rfl (call_r hC2 rfl rfl (arg_e arg_nil) (.inl rfl) (fun _ => rfl)) ?_
        refine reg_quiet rfl (step_C tab_ok (fun K hk => hk)) ?_
        refine reg_quiet rfl (step_C tab_ok (fun K hk => hk)) ?_
        refine reg_quiet rfl (step_C tab_ok (fun K hk => hk)) ?_
        refine reg_quiet rfl (step_C tab_ok (fun K hk => hk)) ?_
        refine reg_quiet rfl (step_C tab_ok (fun K hk => hk)) ?_
        refine reg_nil ?_
        refine seq_n ?_
        refine wc_seq ?_
        refine wc_region ?_
        refine reg_quiet rfl (step_C tab_ok (fun K hk => hk)) ?_
        refine reg_quiet rfl (step_C tab_ok (fun K hk => hk)) ?_
        refine reg_quiet rfl (step_C tab_ok (fun K hk => hk)) ?_
        refine reg_quiet rfl (step_C tab_ok (fun K hk => hk)) ?_
        refine reg_skip rfl rfl (by assumption) rfl rfl ?_
        refine reg_skip rfl rfl (by assumption) rfl rfl ?_
        refine reg_skip rfl rfl (by assumption) rfl rfl ?_
        refine reg_skip rfl rfl (by assumption) rfl rfl ?_
        refine reg_quiet rfl (pick_T tab_ok rfl (by assumption) rfl) ?_
        refine reg_nil ?_
        refine seq_n ?_
        refine wc_true rfl rfl ?_
        refine wc_seq ?_
        refine wc_region ?_
        refine reg_quiet rfl (step_C tab_ok (fun K hk => hk)) ?_
        refine reg_nil ?_
        refine seq_n ?_
        refine wc_ret ?_
        refine blk_r ?_
        refine seq_r ?_
        refine loop_r ?_
        refine blk_r ?_
        refine seq_r ?_
        exact ⟨trivial, [], .of rfl rfl rfl rfl rfl ⟨⟨_, rfl, AVLe.of_eq rfl⟩, rfl, trivial⟩ trivial⟩
      · have c1 : (!decide (e = f)) = false := by simp [he]
        rw [← hu] at hE
        cases hb : eqU M M2 i with
        | false =>
          rw [hb] at hE
          have hs := same_no (A := M) (B := M2) (i := i) (by rw [r1.l]; exact hlt) hb
          rw [hs]
          refine wc_skip ?_
          refine seq_n ?_
          refine wc_seq ?_
          refine wc_block ?_
          refine wc_seq ?_
          refine wc_region ?_
          refine reg_quiet rfl (step_C tab_ok (fun K hk => hk)) ?_
          refine reg_quiet rfl (step_C tab_ok (fun K hk => hk)) ?_
          refine reg_nil ?_
          refine seq_n ?_
          refine wc_seq ?_
          refine wc_region ?_
          refine reg_quiet rfl (load_box tab_ok rfl rfl rfl rfl) ?_
          refine reg_quiet rfl (step_C tab_ok (fun K hk => hk)) ?_
          refine reg_quiet rfl (call_r hN1 rfl rfl (arg_e (arg_e arg_nil)) (.inl rfl) (fun _ => rfl)) ?_
          refine reg_quiet rfl (step_C tab_ok (fun K hk => hk)) ?_
          refine reg_quiet rfl (step_C tab_ok (fun K hk => hk)) ?_
          refine reg_quiet rfl (step_C tab_ok (fun K hk => hk)) ?_
          refine reg_quiet rfl (step_C tab_ok (fun K hk => hk)) ?_
          refine reg_quiet rfl (step_C tab_ok (fun K hk => hk)) ?_
          refine reg_nil ?_
          refine seq_n ?_
          refine wc_seq ?_
          refine wc_region ?_
          refine reg_quiet rfl (load_box tab_ok rfl rfl rfl rfl) ?_
          refine reg_quiet rfl (step_C tab_ok (fun K hk => hk)) ?_
          refine reg_quiet rfl (call_r hN2 rfl rfl (arg_e (arg_e arg_nil)) (.inl rfl) (fun _ => rfl)) ?_
          refine reg_quiet rfl (step_C tab_ok (fun K hk => hk)) ?_
          refine reg_quiet rfl (step_C tab_ok (fun K hk => hk)) ?_
          refine reg_quiet rfl (step_C tab_ok (fun K hk => hk)) ?_
          refine reg_quiet rfl (step_C tab_ok (fun K hk => hk)) ?_
          refine reg_quiet rfl (step_C tab_ok (fun K hk => hk)) ?_
          refine reg_nil ?_
          refine seq_n ?_
          refine wc_seq ?_
          refine wc_region ?_
          refine reg_quiet rfl (step_C tab_ok (fun K hk => hk)) ?_
          refine reg_quiet rfl (call_r hC1 rfl rfl (arg_e arg_nil) (.inl rfl) (fun _ => rfl)) ?_
          refine reg_quiet rfl (step_C tab_ok (fun K hk => hk)) ?_
          refine reg_quiet rfl (step_C tab_ok (fun K hk => hk)) ?_
          refine reg_quiet rfl (step_C tab_ok (fun K hk => hk)) ?_
          refine reg_quiet rfl (step_C tab_ok (fun K hk => hk)) ?_
          refine reg_quiet rfl (step_C tab_ok (fun K hk => hk)) ?_
          refine reg_nil ?_
          refine seq_n ?_
          refine wc_seq ?_
          refine wc_region ?_
          refine reg_quiet rfl (step_C tab_ok (fun K hk => hk)) ?_
          refine reg_quiet rfl (call_r hC2 rfl rfl (arg_e arg_nil) (.inl rfl) (fun _ => rfl)) ?_
          refine reg_quiet rfl (step_C tab_ok (fun K hk => hk)) ?_
          refine reg_quiet rfl (step_C tab_ok (fun K hk => hk)) ?_
          refine reg_quiet rfl (step_C tab_ok (fun K hk => hk)) ?_
          refine reg_quiet rfl (step_C tab_ok (fun K hk => hk)) ?_
          refine reg_quiet rfl (step_C tab_ok (fun K hk => hk)) ?_
          refine reg_nil ?_
          refine seq_n ?_
          refine wc_seq ?_
          refine wc_region ?_
          refine reg_quiet rfl (step_C tab_ok (fun K hk => hk)) ?_
          refine reg_quiet rfl (step_C tab_ok (fun K hk => hk)) ?_
          refine reg_quiet rfl (step_C tab_ok (fun K hk => hk)) ?_
          refine reg_quiet rfl (step_C tab_ok (fun K hk => hk)) ?_
          refine reg_on rfl rfl (by assumption) ?_
          refine reg_quiet rfl (step_C tab_ok (fun K hk => hk)) ?_
          refine reg_on rfl rfl (by assumption) ?_
          refine reg_quiet rfl (step_C tab_ok (fun K hk => hk)) ?_
          refine reg_on rfl rfl (by assumption) ?_
          refine reg_quiet rfl (call_r hE rfl rfl (arg_e (arg_e arg_nil)) (.inl rfl) (fun _ => rfl)) ?_
          refine reg_on rfl rfl (by assumption) ?_
          refine reg_quiet rfl (step_C tab_ok (fun K hk => hk)) ?_
          refine reg_quiet rfl (pick_F tab_ok rfl (by assumption) rfl) ?_
          refine reg_nil ?_
          refine seq_n ?_
          refine wc_true rfl rfl ?_
          refine wc_seq ?_
          refine wc_region ?_
          refine reg_quiet rfl (step_C tab_ok (fun K hk => hk)) ?_
          refine reg_nil ?_
          refine seq_n ?_
          refine wc_ret ?_
          refine blk_r ?_
          refine seq_r ?_
          refine loop_r ?_
          refine blk_r ?_
          refine seq_r ?_
          exact ⟨trivial, [], .of rfl rfl rfl rfl rfl ⟨⟨_, rfl, AVLe.of_eq rfl⟩, rfl, trivial⟩ trivial⟩
        | true =>
          rw [hb] at hE
          refine wc_skip ?_
          refine seq_n ?_
          refine wc_seq ?_
          refine wc_block ?_
          refine wc_seq ?_
          refine wc_region ?_
          refine reg_quiet rfl (step_C tab_ok (fun K hk => hk)) ?_
          refine reg_quiet rfl (step_C tab_ok (fun K hk => hk)) ?_
          refine reg_nil ?_
          refine seq_n ?_
          refine wc_seq ?_
          refine wc_region ?_
          refine reg_quiet rfl (load_box tab_ok rfl rfl rfl rfl) ?_
          refine reg_quiet rfl (step_C tab_ok (fun K hk => hk)) ?_
          refine reg_quiet rfl (call_r hN1 rfl rfl (arg_e (arg_e arg_nil)) (.inl rfl) (fun _ => rfl)) ?_
          refine reg_quiet rfl (step_C tab_ok (fun K hk => hk)) ?_
          refine reg_quiet rfl (step_C tab_ok (fun K hk => hk)) ?_
          refine reg_quiet rfl (step_C tab_ok (fun K hk => hk)) ?_
          refine reg_quiet rfl (step_C tab_ok (fun K hk => hk)) ?_
          refine reg_quiet rfl (step_C tab_ok (fun K hk => hk)) ?_
          refine reg_nil ?_
          refine seq_n ?_
          refine wc_seq ?_
          refine wc_region ?_
          refine reg_quiet rfl (load_box tab_ok rfl rfl rfl rfl) ?_
          refine reg_quiet rfl (step_C tab_ok (fun K hk => hk)) ?_
          refine reg_quiet rfl (call_r hN2 rfl rfl (arg_e (arg_e arg_nil)) (.inl rfl) (fun _ => rfl)) ?_
          refine reg_quiet rfl (step_C tab_ok (fun K hk => hk)) ?_
          refine reg_quiet rfl (step_C tab_ok (fun K hk => hk)) ?_
          refine reg_quiet rfl (step_C tab_ok (fun K hk => hk)) ?_
          refine reg_quiet rfl (step_C tab_ok (fun K hk => hk)) ?_
          refine reg_quiet rfl (step_C tab_ok (fun K hk => hk)) ?_
          refine reg_nil ?_
          refine seq_n ?_
          refine wc_seq ?_
          refine wc_region ?_
          refine reg_quiet rfl (step_C tab_ok (fun K hk => hk)) ?_
          refine reg_quiet rfl (call_r hC1 rfl rfl (arg_e arg_nil) (.inl rfl) (fun _ => rfl)) ?_
          refine reg_quiet rfl (step_C tab_ok (fun K hk => hk)) ?_
          refine reg_quiet rfl (step_C tab_ok (fun K hk => hk)) ?_
          refine reg_quiet rfl (step_C tab_ok (fun K hk => hk)) ?_
          refine reg_quiet rfl (step_C tab_ok (fun K hk => hk)) ?_
          refine reg_quiet rfl (step_C tab_ok (fun K hk => hk)) ?_
          refine reg_nil ?_
          refine seq_n ?_
          refine wc_seq ?_
          refine wc_region ?_
          refine reg_quiet rfl (step_C tab_ok (fun K hk => hk)) ?_
          refine reg_quiet rfl (call_r hC2 rfl rfl (arg_e arg_nil) (.inl rfl) (fun _ => rfl)) ?_
          refine reg_quiet rfl (step_C tab_ok (fun K hk => hk)) ?_
          refine reg_quiet rfl (step_C tab_ok (fun K hk => hk)) ?_
          refine reg_quiet rfl (step_C tab_ok (fun K hk => hk)) ?_
          refine reg_quiet rfl (step_C tab_ok (fun K hk => hk)) ?_
          refine reg_quiet rfl (step_C tab_ok (fun K hk => hk)) ?_
          refine reg_nil ?_
          refine seq_n ?_
          refine wc_seq ?_
          refine wc_region ?_
          refine reg_quiet rfl (step_C tab_ok (fun K hk => hk)) ?_
          refine reg_quiet rfl (step_C tab_ok (fun K hk => hk)) ?_
          refine reg_quiet rfl (step_C tab_ok (fun K hk => hk)) ?_
          refine reg_quiet rfl (step_C tab_ok (fun K hk => hk)) ?_
          refine reg_on rfl rfl (by assumption) ?_
          refine reg_quiet rfl (step_C tab_ok (fun K hk => hk)) ?_
          refine reg_on rfl rfl (by assumption) ?_
          refine reg_quiet rfl (step_C tab_ok (fun K hk => hk)) ?_
          refine reg_on rfl rfl (by assumption) ?_
          refine reg_quiet rfl (call_r hE rfl rfl (arg_e (arg_e arg_nil)) (.inl rfl) (fun _ => rfl)) ?_
          refine reg_on rfl rfl (by assumption) ?_
          refine reg_quiet rfl (step_C tab_ok (fun K hk => hk)) ?_
          refine reg_quiet rfl (pick_F tab_ok rfl (by assumption) rfl) ?_
          refine reg_nil ?_
          refine seq_n ?_
          refine wc_false rfl rfl ?_
          refine wc_skip ?_
          refine blk_n ?_
          refine seq_n ?_
          refine wc_region ?_
          refine reg_quiet rfl (add_int tab_ok rfl rfl (wrap_i64 (by omega) (by omega))) ?_
          refine reg_quiet rfl (step_C tab_ok (fun K hk => hk)) ?_
          refine reg_nil ?_
          refine loop_n (i + 1) [(64, some 64), (65, some 65)] ⟨hlt, fun k hk => ?_⟩ (show N - (i + 1) < N - i by omega) ?_
          · rcases Nat.lt_or_ge k i with h | h
            · exact hall k h
            · rw [show k = i by omega]; exact hb
          · exact .of rfl rfl rfl rfl rfl ⟨⟨_, rfl, .refl _⟩, rfl, ⟨_, rfl, .refl _⟩, rfl, ⟨_, rfl, .refl _⟩, rfl, ⟨_, rfl, .refl _⟩, rfl, trivial⟩ ⟨⟨rfl, rfl, _, rfl, .refl _⟩, ⟨rfl, rfl, _, rfl, .refl _⟩, trivial⟩
    · have hiN : i = N := by have := of_decide_eq_false h3; have := r1.n; omega
      have hs := same_yes (A := M) (B := M2) (by rw [r1.l, r2.l]) (fun k hk => hall k (by rw [r1.l] at hk; omega))
      rw [hs]
      refine wc_exit ?_
      refine seq_x ?_
      refine loop_x ?_
      refine blk_x ?_
      refine seq_n ?_
      refine wc_seq ?_
      refine wc_region ?_
      refine reg_quiet rfl (step_C tab_ok (fun K hk => hk)) ?_
      refine reg_nil ?_
      refine seq_n ?_
      refine wc_ret ?_
      exact ⟨trivial, [], .of rfl rfl rfl rfl rfl ⟨⟨_, rfl, AVLe.of_eq rfl⟩, rfl, trivial⟩ trivial⟩
  · have c0 : (!decide (d.n = d2.n)) = true := by rw [r1.n, r2.n]; simp; omega
    have hs : sameM M M2 = false := by rw [sameM, decide_eq_false (by rw [r1.l, r2.l]; exact hNN)]; rfl
    rw [hs]
    refine fnIs_of tab_ok Try.func28 rfl rfl rfl ?_
    refine wc_seq ?_
    refine wc_region ?_
    refine reg_new (step_C tab_ok (fun K hk => hk)) rfl ?_
    refine reg_new (step_C tab_ok (fun K hk => hk)) rfl ?_
    refine reg_quiet rfl (step_C tab_ok (fun K hk => hk)) ?_
    refine reg_nil ?_
    refine seq_n ?_
    refine wc_seq ?_
    refine wc_seq ?_
    refine wc_region ?_
    refine reg_quiet rfl (step_C tab_ok (fun K hk => hk)) ?_
    refine reg_quiet rfl (load_box tab_ok rfl rfl ⟨_, rfl, rfl⟩ rfl) ?_
    refine reg_quiet rfl (step_C tab_ok (fun K hk => hk)) ?_
    refine reg_quiet rfl (load_box tab_ok rfl rfl ⟨_, rfl, rfl⟩ rfl) ?_
    refine reg_quiet rfl (step_C tab_ok (fun K hk => hk)) ?_
    refine reg_nil ?_
    refine seq_n ?_
    refine wc_true rfl (by assumption) ?_
    refine wc_seq ?_
    refine wc_region ?_
    refine reg_quiet rfl (step_C tab_ok (fun K hk => hk)) ?_
    refine reg_nil ?_
    refine seq_n ?_
    refine wc_ret ?_
    refine seq_r ?_
    exact ⟨trivial, [], .of rfl rfl rfl rfl rfl ⟨⟨_, rfl, AVLe.of_eq rfl⟩, rfl, trivial⟩ trivial⟩
theorem rsame_is {N N2 j j2 : Nat} {d d2 : Dk} {M M2 : List Vs} (r1 : Rep N j d M) (r2 : Rep N2 j2 d2 M2) : FnIs Try.prog 27 [.d (encRD (refL M)), .d (encRD (refL M2))] [] (.bool (sameM M M2)) [] := by
  have hN := r1.nb
  have l1 : (refL M).length = N := by rw [refL_len, r1.l]
  have l2 : (refL M2).length = N2 := by rw [refL_len, r2.l]
  by_cases hNN : N = N2
  · subst hNN
    have c0 : (!decide (((refL M).length : Int) = ((refL M2).length : Int))) = false := by rw [l1, l2]; simp
    refine fnIs_of tab_ok Try.func27 rfl rfl rfl ?_
    refine wc_seq ?_
    refine wc_region ?_
    refine reg_new (step_C tab_ok (fun K hk => hk)) rfl ?_
    refine reg_new (step_C tab_ok (fun K hk => hk)) rfl ?_
    refine reg_quiet rfl (step_C tab_ok (fun K hk => hk)) ?_
    refine reg_nil ?_
    refine seq_n ?_
    refine wc_seq ?_
    refine wc_seq ?_
    refine wc_region ?_
    refine reg_quiet rfl (step_C tab_ok (fun K hk => hk)) ?_
    refine reg_quiet rfl (load_box tab_ok rfl rfl ⟨_, rfl, rfl⟩ rfl) ?_
    refine reg_quiet rfl (len_arr tab_ok rfl rfl) ?_
    refine reg_quiet rfl (step_C tab_ok (fun K hk => hk)) ?_
    refine reg_quiet rfl (load_box tab_ok rfl rfl ⟨_, rfl, rfl⟩ rfl) ?_
    refine reg_quiet rfl (len_arr tab_ok rfl rfl) ?_
    refine reg_quiet rfl (step_C tab_ok (fun K hk => hk)) ?_
    refine reg_nil ?_
    refine seq_n ?_
    refine wc_false rfl (by assumption) ?_
    refine wc_skip ?_
    refine seq_n ?_
    refine wc_seq ?_
    refine wc_seq ?_
    refine wc_region ?_
    refine reg_quiet rfl (step_C tab_ok (fun K hk => hk)) ?_
    refine reg_nil ?_
    refine seq_n ?_
    refine wc_block ?_
    refine wc_inv (fun i : Nat => ⟨[(5, .int .i64 i), (2, .ptr 64 []), (3, .ptr 65 [])], [(64, some (.box 34 (.d (encRD (refL M))))), (65, some (.box 34 (.d (encRD (refL M2)))))], 72, Try.f27.ntmps, 64⟩) (fun i => i ≤ N ∧ ∀ k, k < i → eqU M M2 k = true) (fun i => N - i) 0 [(64, some 64), (65, some 72)] ⟨Nat.zero_le _, fun k hk => absurd hk (Nat.not_lt_zero _)⟩
      (.of rfl rfl rfl rfl rfl ⟨⟨_, rfl, .refl _⟩, rfl, ⟨_, rfl, .refl _⟩, rfl, ⟨_, rfl, .refl _⟩, rfl, trivial⟩ ⟨⟨rfl, rfl, _, rfl, .refl _⟩, ⟨rfl, rfl, _, rfl, .refl _⟩, trivial⟩) ?_
    rintro i ⟨hi, hall⟩
    refine wc_of ?_
    refine wc_seq ?_
    refine wc_seq ?_
    refine wc_region ?_
    refine reg_quiet rfl (step_C tab_ok (fun K hk => hk)) ?_
    refine reg_quiet rfl (step_C tab_ok (fun K hk => hk)) ?_
    refine reg_quiet rfl (load_box tab_ok rfl rfl ⟨_, rfl, rfl⟩ rfl) ?_
    refine reg_quiet rfl (len_arr tab_ok rfl rfl) ?_
    refine reg_quiet rfl (step_C tab_ok (fun K hk => hk)) ?_
    refine reg_nil ?_
    refine seq_n ?_
    refine wc_cond rfl (fun h3 => ?_) (fun h3 => ?_)
    · have hlt : i < N := by have := of_decide_eq_true h3; omega
      have hL1 := r1.last hlt
      have hL2 := r2.last hlt
      have hu : eqU M M2 i = eqT (topV (verAt M i)) (topV (verAt M2 i)) := rfl
      cases hb : eqU M M2 i with
      | false =>
        have c1 : (!eqT (topV (verAt M i)) (topV (verAt M2 i))) = true := by rw [← hu, hb]; rfl
        have hs := same_no (A := M) (B := M2) (i := i) (by rw [r1.l]; exact hlt) hb
        rw [hs]
        refine wc_skip ?_
        refine seq_n ?_
        refine wc_seq ?_
        refine wc_block ?_
        refine wc_seq ?_
        refine wc_draw (by kernel_rfl) ?_
        refine dreg_q [2] [64] rfl (load_box tab_ok rfl rfl rfl rfl) ?_
        refine dreg_q [5] [] rfl (step_C tab_ok (fun K hk => hk)) ?_
        refine dreg_q [20, 21] [] rfl (call_r hL1 rfl rfl (arg_e (arg_e arg_nil)) (.inl rfl) (fun _ => rfl)) ?_
        refine dreg_q [3] [65] rfl (load_box tab_ok rfl rfl rfl rfl) ?_
        refine dreg_q [5] [] rfl (step_C tab_ok (fun K hk => hk)) ?_
        refine dreg_q [23, 24] [] rfl (call_r hL2 rfl rfl (arg_e (arg_e arg_nil)) (.inl rfl) (fun _ => rfl)) ?_
        refine dreg_q [22, 25] [] rfl (neq_data rfl rfl rfl rfl (by kernel_rfl) (by decide) (v_eq (topV (verAt M i)) (topV (verAt M2 i)))) ?_
        refine dreg_end (by kernel_rfl) ?_
        refine seq_n ?_
        refine wc_true rfl (by assumption) ?_
        refine wc_seq ?_
        refine wc_region ?_
        refine reg_quiet rfl (step_C tab_ok (fun K hk => hk)) ?_
        refine reg_nil ?_
        refine seq_n ?_
        refine wc_ret ?_
        refine blk_r ?_
        refine seq_r ?_
        refine loop_r ?_
        refine blk_r ?_
        refine seq_r ?_
        exact ⟨trivial, [], .of rfl rfl rfl rfl rfl ⟨⟨_, rfl, AVLe.of_eq rfl⟩, rfl, trivial⟩ trivial⟩
      | true =>
        have c1 : (!eqT (topV (verAt M i)) (topV (verAt M2 i))) = false := by rw [← hu, hb]; rfl
        refine wc_skip ?_
        refine seq_n ?_
        refine wc_seq ?_
        refine wc_block ?_
        refine wc_seq ?_
        refine wc_draw (by kernel_rfl) ?_
        refine dreg_q [2] [64] rfl (load_box tab_ok rfl rfl rfl rfl) ?_
        refine dreg_q [5] [] rfl (step_C tab_ok (fun K hk => hk)) ?_
        refine dreg_q [20, 21] [] rfl (call_r hL1 rfl rfl (arg_e (arg_e arg_nil)) (.inl rfl) (fun _ => rfl)) ?_
        refine dreg_q [3] [65] rfl (load_box tab_ok rfl rfl rfl rfl) ?_
        refine dreg_q [5] [] rfl (step_C tab_ok (fun K hk => hk)) ?_
        refine dreg_q [23, 24] [] rfl (call_r hL2 rfl rfl (arg_e (arg_e arg_nil)) (.inl rfl) (fun _ => rfl)) ?_
        refine dreg_q [22, 25] [] rfl (neq_data rfl rfl rfl rfl (by kernel_rfl) (by decide) (v_eq (topV (verAt M i)) (topV (verAt M2 i)))) ?_
        refine dreg_end (by kernel_rfl) ?_
        refine seq_n ?_
        refine wc_false rfl (by assumption) ?_
        refine wc_skip ?_
        refine blk_n ?_
        refine seq_n ?_
        refine wc_region ?_
        refine reg_quiet rfl (step_C tab_ok (fun K hk => hk)) ?_
        refine reg_quiet rfl (add_int tab_ok rfl rfl (wrap_i64 (by omega) (by omega))) ?_
        refine reg_quiet rfl (step_C tab_ok (fun K hk => hk)) ?_
        refine reg_nil ?_
        refine loop_n (i + 1) [(64, some 64), (65, some 65)] ⟨hlt, fun k hk => ?_⟩ (show N - (i + 1) < N - i by omega) ?_
        · rcases Nat.lt_or_ge k i with h | h
          · exact hall k h
          · rw [show k = i by omega]; exact hb
        · exact .of rfl rfl rfl rfl rfl ⟨⟨_, rfl, .refl _⟩, rfl, ⟨_, rfl, .refl _⟩, rfl, ⟨_, rfl, .refl _⟩, rfl, trivial⟩ ⟨⟨rfl, rfl, _, rfl, .refl _⟩, ⟨rfl, rfl, _, rfl, .refl _⟩, trivial⟩
    · have hiN : i = N := by have := of_decide_eq_false h3; omega
      have hs := same_yes (A := M) (B := M2) (by rw [r1.l, r2.l]) (fun k hk => hall k (by rw [r1.l] at hk; omega))
      rw [hs]
      refine wc_exit ?_
      refine seq_x ?_
      refine loop_x ?_
      refine blk_x ?_
      refine seq_n ?_
      refine wc_seq ?_
      refine wc_region ?_
      refine reg_quiet rfl (step_C tab_ok (fun K hk => hk)) ?_
      refine reg_nil ?_
      refine seq_n ?_
      refine wc_ret ?_
      exact ⟨trivial, [], .of rfl rfl rfl rfl rfl ⟨⟨_, rfl, AVLe.of_eq rfl⟩, rfl, trivial⟩ trivial⟩
  · have c0 : (!decide (((refL M).length : Int) = ((refL M2).length : Int))) = true := by rw [l1, l2]; simp; omega
    have hs : sameM M M2 = false := by rw [sameM, decide_eq_false (by rw [r1.l, r2.l]; exact hNN)]; rfl
    rw [hs]
    refine fnIs_of tab_ok Try.func27 rfl rfl rfl ?_
    refine wc_seq ?_
    refine wc_region ?_
    refine reg_new (step_C tab_ok (fun K hk => hk)) rfl ?_
    refine reg_new (step_C tab_ok (fun K hk => hk)) rfl ?_
    refine reg_quiet rfl (step_C tab_ok (fun K hk => hk)) ?_
    refine reg_nil ?_
    refine seq_n ?_
    refine wc_seq ?_
    refine wc_seq ?_
    refine wc_region ?_
    refine reg_quiet rfl (step_C tab_ok (fun K hk => hk)) ?_
    refine reg_quiet rfl (load_box tab_ok rfl rfl ⟨_, rfl, rfl⟩ rfl) ?_
    refine reg_quiet rfl (len_arr tab_ok rfl rfl) ?_
    refine reg_quiet rfl (step_C tab_ok (fun K hk => hk)) ?_
    refine reg_quiet rfl (load_box tab_ok rfl rfl ⟨_, rfl, rfl⟩ rfl) ?_
    refine reg_quiet rfl (len_arr tab_ok rfl rfl) ?_
    refine reg_quiet rfl (step_C tab_ok (fun K hk => hk)) ?_
    refine reg_nil ?_
    refine seq_n ?_
    refine wc_true rfl (by assumption) ?_
    refine wc_seq ?_
    refine wc_region ?_
    refine reg_quiet rfl (step_C tab_ok (fun K hk => hk)) ?_
    refine reg_nil ?_
    refine seq_n ?_
    refine wc_ret ?_
    refine seq_r ?_
    exact ⟨trivial, [], .of rfl rfl rfl rfl rfl ⟨⟨_, rfl, AVLe.of_eq rfl⟩, rfl, trivial⟩ trivial⟩
theorem sameM_comm (A B : List Vs) : sameM B A = sameM A B := by
  rw [Bool.eq_iff_iff]
  have key : ∀ A B : List Vs, sameM A B = true → sameM B A = true := fun A B h => by
    rw [sameM, Bool.and_eq_true, List.all_eq_true] at h
    obtain ⟨h1, h2⟩ := h
    have h1 := of_decide_eq_true h1
    refine same_yes h1.symm fun i hi => ?_
    have := h2 i (List.mem_range.2 (by omega))
    rw [eqU, eqT, Bool.and_eq_true, decide_eq_true_iff, decide_eq_true_iff] at this ⊢
    exact ⟨this.1.symm, this.2.symm⟩
  exact ⟨key B A, key A B⟩
theorem sameM_self (A : List Vs) : sameM A A = true := same_yes rfl fun i _ => by simp [eqU, eqT]
theorem sameLaw_core (x x2 : Int × List Opr) (d d2 : Dk) (L L2 : List Vs) (v : Bool) (hO1 : FnIs Try.prog 16 [.d (encX x)] [] (.d (encDk d)) []) (hO2 : FnIs Try.prog 16 [.d (encX x2)] [] (.d (encDk d2)) [])
    (hR1 : FnIs Try.prog 17 [.d (encX x)] [] (.d (encRD L)) []) (hR2 : FnIs Try.prog 17 [.d (encX x2)] [] (.d (encRD L2)) [])
    (hS : FnIs Try.prog 27 [.d (encRD L), .d (encRD L2)] [] (.bool v) []) (hP1 : FnIs Try.prog 28 [.d (encDk d), .d (encDk d2)] [] (.bool v) []) (hP2 : FnIs Try.prog 28 [.d (encDk d2), .d (encDk d)] [] (.bool v) []) (hP3 : FnIs Try.prog 28 [.d (encDk d), .d (encDk d)] [] (.bool true) []) : FnIs Try.prog 7 [.d (encX x), .d (encX x2)] [] (.bool true) [] := by
  have hv : (v == v) = true := by simp
  refine fnIs_of tab_ok Try.func7 rfl rfl rfl ?_
  refine wc_seq ?_
  refine wc_region ?_
  refine reg_new (step_C tab_ok (fun K hk => hk)) rfl ?_
  refine reg_new (step_C tab_ok (fun K hk => hk)) rfl ?_
  refine reg_quiet rfl (step_C tab_ok (fun K hk => hk)) ?_
  refine reg_nil ?_
  refine seq_n ?_
  refine wc_seq ?_
  refine wc_draw (by kernel_rfl) ?_
  refine dreg_q [2] [64] rfl (load_box tab_ok rfl rfl rfl rfl) ?_
  refine dreg_q [8] [] rfl (call_r hO1 rfl rfl (arg_e arg_nil) (.inl rfl) (fun _ => rfl)) ?_
  refine dreg_q [3] [72] rfl (load_box tab_ok rfl rfl rfl rfl) ?_
  refine dreg_q [10] [] rfl (call_r hO2 rfl rfl (arg_e arg_nil) (.inl rfl) (fun _ => rfl)) ?_
  refine dreg_w [] [] rfl (step_C tab_ok (fun K hk => hk)) ?_
  refine dreg_w [] [] rfl (step_C tab_ok (fun K hk => hk)) ?_
  refine dreg_s [5, 9] [120] (store_row tab_ok rfl rfl rfl ⟨_, ⟨rfl, rfl, rfl⟩, rfl⟩ rfl) ?_
  refine dreg_s [6, 11] [128] (store_row tab_ok rfl rfl rfl ⟨_, ⟨rfl, rfl, rfl⟩, rfl⟩ rfl) ?_
  refine dreg_end (by kernel_rfl) ?_
  refine seq_n ?_
  refine wc_seq ?_
  refine wc_draw (by kernel_rfl) ?_
  refine dreg_q [2] [64] rfl (load_box tab_ok rfl rfl rfl rfl) ?_
  refine dreg_q [12] [] rfl (call_r hR1 rfl rfl (arg_e arg_nil) (.inl rfl) (fun _ => rfl)) ?_
  refine dreg_q [3] [72] rfl (load_box tab_ok rfl rfl rfl rfl) ?_
  refine dreg_q [14] [] rfl (call_r hR2 rfl rfl (arg_e arg_nil) (.inl rfl) (fun _ => rfl)) ?_
  refine dreg_q [13, 15] [] rfl (call_r hS rfl rfl (arg_e (arg_e arg_nil)) (.inl rfl) (fun _ => rfl)) ?_
  refine dreg_q [16] [] rfl (step_C tab_ok (fun K hk => hk)) ?_
  refine dreg_end (by kernel_rfl) ?_
  refine seq_n ?_
  refine wc_seq ?_
  refine wc_region ?_
  refine reg_quiet rfl (load_box tab_ok rfl rfl rfl rfl) ?_
  refine reg_quiet rfl (load_box tab_ok rfl rfl rfl rfl) ?_
  refine reg_quiet rfl (call_r hP1 rfl rfl (arg_e (arg_e arg_nil)) (.inl rfl) (fun _ => rfl)) ?_
  refine reg_quiet rfl (step_C tab_ok (fun K hk => hk)) ?_
  refine reg_quiet rfl (step_C tab_ok (fun K hk => hk)) ?_
  refine reg_quiet rfl (step_C tab_ok (fun K hk => hk)) ?_
  refine reg_on rfl rfl (by assumption) ?_
  refine reg_quiet rfl (load_box tab_ok rfl rfl rfl rfl) ?_
  refine reg_on rfl rfl (by assumption) ?_
  refine reg_quiet rfl (load_box tab_ok rfl rfl rfl rfl) ?_
  refine reg_on rfl rfl (by assumption) ?_
  refine reg_quiet rfl (call_r hP2 rfl rfl (arg_e (arg_e arg_nil)) (.inl rfl) (fun _ => rfl)) ?_
  refine reg_on rfl rfl (by assumption) ?_
  refine reg_quiet rfl (step_C tab_ok (fun K hk => hk)) ?_
  refine reg_on rfl rfl (by assumption) ?_
  refine reg_quiet rfl (step_C tab_ok (fun K hk => hk)) ?_
  refine reg_quiet rfl (pick_T tab_ok rfl (by assumption) rfl) ?_
  refine reg_quiet rfl (step_C tab_ok (fun K hk => hk)) ?_
  refine reg_on rfl rfl (by assumption) ?_
  refine reg_quiet rfl (load_box tab_ok rfl rfl rfl rfl) ?_
  refine reg_on rfl rfl (by assumption) ?_
  refine reg_quiet rfl (load_box tab_ok rfl rfl rfl rfl) ?_
  refine reg_on rfl rfl (by assumption) ?_
  refine reg_quiet rfl (call_r hP3 rfl rfl (arg_e (arg_e arg_nil)) (.inl rfl) (fun _ => rfl)) ?_
  refine reg_quiet rfl (pick_T tab_ok rfl (by assumption) rfl) ?_
  refine reg_quiet rfl (step_C tab_ok (fun K hk => hk)) ?_
  refine reg_on rfl rfl rfl ?_
  refine reg_quiet rfl (call_r lives_is rfl rfl arg_nil (.inl rfl) (fun _ => rfl)) ?_
  refine reg_quiet rfl (pick_T tab_ok rfl rfl rfl) ?_
  refine reg_quiet rfl (step_C tab_ok (fun K hk => hk)) ?_
  refine reg_nil ?_
  refine seq_n ?_
  refine wc_ret ?_
  exact ⟨trivial, [], .of rfl rfl rfl rfl rfl ⟨⟨_, rfl, AVLe.of_eq rfl⟩, rfl, trivial⟩ trivial⟩
theorem sameLaw_is (x x2 : Int × List Opr) (h : 0 ≤ x.1 ∧ x.1 ≤ 255) (hl : ∀ o ∈ x.2, OpOk o) (h2 : 0 ≤ x2.1 ∧ x2.1 ≤ 255) (hl2 : ∀ o ∈ x2.2, OpOk o) : FnIs Try.prog 7 [.d (encX x), .d (encX x2)] [] (.bool true) [] := by
  obtain ⟨a1, a2, -⟩ := size_ok h
  obtain ⟨b1, b2, -⟩ := size_ok h2
  have r1 := rep_run (N := sizeN x.1) ⟨a1, by omega⟩ x.2 hl (min x.2.length 60) (by omega)
  have r2 := rep_run (N := sizeN x2.1) ⟨b1, by omega⟩ x2.2 hl2 (min x2.2.length 60) (by omega)
  have p2 := same_is r2 r1
  rw [sameM_comm] at p2
  have p3 := same_is r1 r1
  rw [sameM_self] at p3
  exact sameLaw_core x x2 _ _ _ _ _ (of_is x.1 x.2 h hl) (of_is x2.1 x2.2 h2 hl2) (refOf_is x.1 x.2 h hl) (refOf_is x2.1 x2.2 h2 hl2) (rsame_is r1 r2) (same_is r1 r2) p2 p3
end Go.Proofs.Ytfmemklkkmiicaa

/- DisksSame: the walked law is the statement. -/
namespace Go.Proofs.Ytfmemklkkmiicaa
open Go.ChangeShapes Go.WideShapes Go.ChangeAt Go.RowKit Go.Eng
theorem own : ownKnob Try.prog.godebug = none := by kernel_rfl
theorem laidOut : laidOutB Try.prog = true := by kernel_rfl
set_option maxRecDepth 100000 in
theorem lifted (os : Os) (started : os.Started) (H : Type) (enc : TypeId × Value → H) :
    ReturnsInHanded {} Try.checked os 7 .any (Rows.disksSameSpec.pre6 enc Try.prog Try.f7 Rows.disksSameRow.domain false) (Rows.disksSameSpec.post enc Try.prog Try.f7 false true false false) := by
  refine returnsInHanded_of_change (C := Try.checked) own started (by kernel_rfl) Try.func7
    (ChangeSpec.witness6 (enc := enc) (C := Try.checked) false ⟨#[], #[(.agg #[.int .u8 0, .slice none 0 0]), (.agg #[.int .u8 0, .slice none 0 0])], []⟩ 8 (by kernel_rfl) (by kernel_rfl) (by kernel_rfl) (by kernel_rfl)) ?_
  intro W base args ds gs before hval0 hW hcnd _
  have hval : ∀ (j : Nat) t v, Try.f7.params[j]? = some t → args[j]? = some v → Value.okWide Try.prog W .any base t v := hval0
  have hW' := hW
  obtain ⟨p, q, hA0, hV, rfl, hfz, hnd⟩ := hW
  have hA : DataW.TrodAll enc Try.prog W 0 (fun _ => true) true Try.f7.params.toList args.toList ds p := hA0
  rw [Try.params7] at hA hval
  obtain ⟨v0, vs0, d0, ds0, p0, q0, hargs, rfl, rfl, h0, r0⟩ := trodAll_cons hA
  obtain ⟨v1, vs1, d1, ds1, p1, q1, rfl, rfl, rfl, h1, r1⟩ := trodAll_cons r0
  obtain ⟨rfl, rfl, rfl⟩ := trodAll_nil r1
  obtain rfl : args = #[v0, v1] := Array.ext' (by simpa using hargs)
  obtain ⟨rfl, rfl⟩ := trodVars_none hV
  have k0 := h0
  have lt0 : ∀ x ∈ p0, x.block < W.heap.size := by obtain ⟨m, hm⟩ := k0; exact DataW.trod_lt m _ _ _ hm
  obtain ⟨fuel0, hfu0⟩ := h0
  obtain ⟨x0, e0, _, w0⟩ := opens_X H enc W _ _ fuel0 _ _ hfu0
  obtain ⟨cs0, hcs0, _⟩ := okWide_struct Try.underlying24 (hval 0 24 v0 rfl rfl)
  have rel0 : RelV (fun _ => none) W (fun _ => False) (.d (encX x0)) v0 := e0.relV ⟨fun _ => rfl, fun _ => ⟨cs0, hcs0⟩⟩
  have k1 := h1
  have lt1 : ∀ x ∈ p1, x.block < W.heap.size := by obtain ⟨m, hm⟩ := k1; exact DataW.trod_lt m _ _ _ hm
  obtain ⟨fuel1, hfu1⟩ := h1
  obtain ⟨x1, e1, _, w1⟩ := opens_X H enc W _ _ fuel1 _ _ hfu1
  obtain ⟨cs1, hcs1, _⟩ := okWide_struct Try.underlying24 (hval 1 24 v1 rfl rfl)
  have rel1 : RelV (fun _ => none) W (fun _ => False) (.d (encX x1)) v1 := e1.relV ⟨fun _ => rfl, fun _ => ⟨cs1, hcs1⟩⟩
  clear hA0 hval0
  refine (law_calls (sameLaw_is x0 x1 w0.1 w0.2 w1.1 w1.2) (W := W) (args := #[v0, v1]) ⟨v0, [v1], rfl, ⟨rel0, trivial⟩, ⟨v1, [], rfl, ⟨rel1, trivial⟩, rfl⟩⟩).mono fun e W' ⟨he, bel⟩ => ?_
  subst he
  exact ⟨_, rfl, _, _, _, [], _, [], hW', trodAll_mk1 (shut_bool Try.underlying4 _), (trodAll_cons_mk (Below.trod laidOut (by kernel_rfl) (of_decide_eq_true (by kernel_rfl)) k0 bel lt0) (trodAll_cons_mk (Below.trod laidOut (by kernel_rfl) (of_decide_eq_true (by kernel_rfl)) k1 bel lt1) trodAll_mk0)), rfl, bel.frame _, fun h => by cases h⟩

theorem over : Rows.disksSameRow.holds Try.pinned (OpenSpec.ofChange Rows.disksSameSpec) :=
  OpenClaim.holds_of_wide 7 Try.f7 rfl rfl rfl rfl rfl rfl rfl ⟨rfl, rfl, rfl, rfl, rfl⟩ rfl rfl rfl rfl rfl (by kernel_rfl) Try.func7 (by kernel_rfl)
    (of_decide_eq_true (by kernel_rfl)) (by unfold Func.isWrapper; first | (rw [if_pos (by decide +kernel)]; kernel_rfl) | (rw [if_neg (by decide +kernel)]; exact ⟨rfl, rfl⟩))
    (fun os started H enc _ => lifted os started H enc)
theorem disksSame_holds : Rows.DisksSameSaid := over
end Go.Proofs.Ytfmemklkkmiicaa
