/- The array after any operations, and their results, are those of the definition, whether they are carried out one by one or together. No condition. -/
import Derived.Test.YtjpjchohpjbknaaAB
import Derived.Test.YtjpjchohpjbknaaRows

set_option linter.unusedVariables false
set_option linter.unusedSimpArgs false

/- ArraysDiffer: two arrays differ where their blocks do. -/
namespace Go.Proofs.Ytjpjchohpjbknaa
open Go.Eng
set_option maxHeartbeats 4000000
set_option maxRecDepth 4000
attribute [local irreducible] WC RegS RegD SeqQ BlkQ ScoQ RegK CutK Sat SatN FnIs LoopQ StepIs OpIs
theorem own_plain (n m : Nat) (c c2 : Option Nat) (a b : Blks) (e1 e2 : Bool) : PlainRes (ownA 64 n c 65 m c2) [(64, rowB e1 a), (65, rowB e2 b)] := .of ⟨trivial, trivial, trivial⟩ (rows_plain _ _ _ _)
theorem diff_pre {a c : Blks} {i : Nat} : ∀ n, ∃ r, diffK a c (i + n) = diffK a c i ++ r
  | 0 => ⟨[], by simp⟩
  | n + 1 => by
    obtain ⟨r, hr⟩ := diff_pre (a := a) (c := c) (i := i) n
    by_cases h : a[i + n]? = c[i + n]?
    · exact ⟨r, by rw [← Nat.add_assoc, diff_no h, hr]⟩
    · exact ⟨r ++ [((i + n : Nat) : Int)], by rw [← Nat.add_assoc, diff_yes h, hr, List.append_assoc]⟩
theorem diff_at {a c : Blks} {i n : Nat} (hi : i < n) (h : a[i]? ≠ c[i]?) : (diffK a c n)[(diffK a c i).length]? = some (i : Int) ∧ (diffK a c i).length < (diffK a c n).length := by
  obtain ⟨r, hr⟩ := diff_pre (a := a) (c := c) (i := i + 1) (n - (i + 1))
  rw [Nat.add_sub_cancel' hi, diff_yes h] at hr
  rw [hr]
  constructor
  · rw [List.append_assoc, List.getElem?_append_right (Nat.le_refl _), Nat.sub_self]
    rfl
  · simp
theorem good_ok {N : Nat} {x : Blks × Blks} (h : Good N x) (h1 : 1 ≤ N) (h2 : N ≤ 4096) : okA x.1 x.2 = true := by
  have e1 := h.l1
  have e2 := h.l2
  have hb : badN (x.1.length : Int) = false := by
    rw [Bool.or_eq_false_iff]
    exact ⟨decide_eq_false (by omega), decide_eq_false (by omega)⟩
  rw [okA, hb, decide_eq_true (by omega)]
  rfl
theorem refl_no (e : Int) : (!decide (e = e)) = false := by simp
theorem differLaw_core (x y : D) (N M : Nat) (p1 p2 q1 q2 : Blks) (hR1 : FnIs Try.prog 25 [.d x] [] (ownA 64 N none 65 N none) [(64, rowB false p1), (65, rowB false p2)]) (hR2 : FnIs Try.prog 25 [.d y] [] (ownA 64 M none 65 M none) [(64, rowB false q1), (65, rowB false q2)])
    (hgp : Good N (p1, p2)) (hgq : Good M (q1, q2)) (n1 : 1 ≤ N) (n2 : N ≤ 20) (m1 : 1 ≤ M) (m2 : M ≤ 20) (hx : ∃ a b, x = .cons (u8s a) (.cons (.arr 3 encT b) .nil)) (hy : ∃ a b, y = .cons (u8s a) (.cons (.arr 3 encT b) .nil)) : FnIs Try.prog 6 [.d x, .d y] [] (.bool true) [] := by
  obtain ⟨xa, xb, rfl⟩ := hx
  obtain ⟨ya, yb, rfl⟩ := hy
  have lp1 : N = p1.length := hgp.l1.symm
  have lp2 : N = p2.length := hgp.l2.symm
  have lq1 : M = q1.length := hgq.l1.symm
  have lq2 : M = q2.length := hgq.l2.symm
  have sp1 : p1.length ≤ 1000000 := by omega
  have sp2 : p2.length ≤ 1000000 := by omega
  have sq1 : q1.length ≤ 1000000 := by omega
  have sq2 : q2.length ≤ 1000000 := by omega
  have hY1 := array_is p1 p2 (by omega) (by omega) (by omega) (by omega)
  have hY2 := array_is q1 q2 (by omega) (by omega) (by omega) (by omega)
  simp only [ownR, ← lp1, ← lp2, ← lq1, ← lq2] at hY1 hY2
  have o1 := good_ok hgp n1 (by omega)
  have o2 := good_ok hgq m1 (by omega)
  have f3 : (!(decide (p1 = p1) && decide (p2 = p2))) = false := by simp
  obtain ⟨v, hv, f1, f2⟩ : ∃ v : Bool, (decide (p1 = q1) && decide (p2 = q2)) = v ∧ ((decide (p1 = q1) && decide (p2 = q2)) != v) = false ∧ ((decide (q1 = p1) && decide (q2 = p2)) != v) = false := by
    refine ⟨_, rfl, by simp, ?_⟩
    rw [show decide (q1 = p1) = decide (p1 = q1) by rw [decide_eq_decide]; exact eq_comm, show decide (q2 = p2) = decide (p2 = q2) by rw [decide_eq_decide]; exact eq_comm]
    simp
  by_cases hNM : N = M
  · subst hNM
    have hDf := differ_ok p1 p2 q1 q2 o1 o2 (by omega)
    have d1 : (!decide ((N : Int) = (N : Int))) = false := by simp
    cases h1 : decide (p1 = q1) with
    | true =>
      rw [h1, Bool.true_and] at hv
      rw [← hv] at f1 f2
      refine fnIs_of tab_ok Try.func6 rfl rfl rfl ?_
      refine wc_seq ?_
      refine wc_region ?_
      refine reg_new (step_C tab_ok (fun K hk => hk)) rfl ?_
      refine reg_new (step_C tab_ok (fun K hk => hk)) rfl ?_
      refine reg_quiet rfl (step_C tab_ok (fun K hk => hk)) ?_
      refine reg_nil ?_
      refine seq_n ?_
      refine wc_seq ?_
      refine wc_draw (by kernel_rfl) ?_
      refine dreg_q [2] [64] rfl (load_box tab_ok rfl rfl rfl rfl) ?_
      refine dreg_w2 [14] [] rfl (call_new hR1 rfl rfl (arg_e arg_nil) (.inl rfl) rfl rfl) ?_
      refine dreg_q [3] [72] rfl (load_box tab_ok rfl rfl rfl rfl) ?_
      refine dreg_w2 [16] [] rfl (call_new hR2 rfl rfl (arg_e arg_nil) (.inl rfl) rfl rfl) ?_
      refine dreg_w [] [] rfl (step_C tab_ok (fun K hk => hk)) ?_
      refine dreg_w [] [] rfl (step_C tab_ok (fun K hk => hk)) ?_
      refine dreg_s [5, 15] [120, 96, 97] (store_row tab_ok rfl rfl rfl ⟨_, ⟨rfl, rfl, rfl⟩, rfl⟩ rfl) ?_
      refine dreg_s [6, 17] [128, 112, 113] (store_row tab_ok rfl rfl rfl ⟨_, ⟨rfl, rfl, rfl⟩, rfl⟩ rfl) ?_
      refine dreg_end (by kernel_rfl) ?_
      refine seq_n ?_
      refine wc_seq ?_
      refine wc_draw (by kernel_rfl) ?_
      refine dreg_q [5] [120, 96, 97] rfl (load_box tab_ok rfl rfl rfl rfl) ?_
      refine dreg_w2 [18] [96, 97] rfl (call_new hY1 rfl rfl (arg_A rfl rfl lp1 lp2 arg_nil) (.inr (own_plain _ _ _ _ _ _ _ _)) rfl rfl) ?_
      refine dreg_q [6] [128, 112, 113] rfl (load_box tab_ok rfl rfl rfl rfl) ?_
      refine dreg_w2 [20] [112, 113] rfl (call_new hY2 rfl rfl (arg_A rfl rfl lq1 lq2 arg_nil) (.inr (own_plain _ _ _ _ _ _ _ _)) rfl rfl) ?_
      refine dreg_w [] [] rfl (step_C tab_ok (fun K hk => hk)) ?_
      refine dreg_w [] [] rfl (step_C tab_ok (fun K hk => hk)) ?_
      refine dreg_s [7, 19] [184, 160, 161] (store_row tab_ok rfl rfl rfl ⟨_, ⟨rfl, rfl, rfl⟩, rfl⟩ rfl) ?_
      refine dreg_s [8, 21] [192, 176, 177] (store_row tab_ok rfl rfl rfl ⟨_, ⟨rfl, rfl, rfl⟩, rfl⟩ rfl) ?_
      refine dreg_end (by kernel_rfl) ?_
      refine seq_n ?_
      refine wc_seq ?_
      refine wc_region ?_
      refine reg_quiet rfl (step_C tab_ok (fun K hk => hk)) ?_
      refine reg_quiet rfl (load_box tab_ok rfl rfl rfl rfl) ?_
      refine reg_quiet rfl (step_C tab_ok (fun K hk => hk)) ?_
      refine reg_quiet rfl (load_box tab_ok rfl rfl rfl rfl) ?_
      refine reg_quiet rfl (call_r (refsame_is p1 q1 sp1 sq1) rfl rfl (arg_ownL rfl lp1 (arg_ownL rfl lq1 arg_nil)) (.inr (bool_plain _)) (fun _ => rfl)) ?_
      refine reg_quiet rfl (step_C tab_ok (fun K hk => hk)) ?_
      refine reg_on rfl rfl (by assumption) ?_
      refine reg_quiet rfl (step_C tab_ok (fun K hk => hk)) ?_
      refine reg_on rfl rfl (by assumption) ?_
      refine reg_quiet rfl (load_box tab_ok rfl rfl rfl rfl) ?_
      refine reg_on rfl rfl (by assumption) ?_
      refine reg_quiet rfl (step_C tab_ok (fun K hk => hk)) ?_
      refine reg_on rfl rfl (by assumption) ?_
      refine reg_quiet rfl (load_box tab_ok rfl rfl rfl rfl) ?_
      refine reg_on rfl rfl (by assumption) ?_
      refine reg_quiet rfl (call_r (refsame_is p2 q2 sp2 sq2) rfl rfl (arg_ownL rfl lp2 (arg_ownL rfl lq2 arg_nil)) (.inr (bool_plain _)) (fun _ => rfl)) ?_
      refine reg_quiet rfl (pick_T tab_ok rfl (by assumption) rfl) ?_
      refine reg_quiet rfl (step_C tab_ok (fun K hk => hk)) ?_
      refine reg_nil ?_
      refine seq_n ?_
      refine wc_seq ?_
      refine wc_region ?_
      refine reg_quiet rfl (load_box tab_ok rfl rfl rfl rfl) ?_
      refine reg_quiet rfl (load_box tab_ok rfl rfl rfl rfl) ?_
      refine reg_new (call_new hDf rfl rfl (arg_A rfl rfl lp1 lp2 (arg_A rfl rfl lq1 lq2 arg_nil)) (.inr (diff_plain _ _ _ _ _)) rfl rfl) rfl ?_
      refine reg_quiet rfl (step_C tab_ok (fun K hk => hk)) ?_
      refine reg_quiet rfl (step_C tab_ok (fun K hk => hk)) ?_
      refine reg_quiet rfl (step_C tab_ok (fun K hk => hk)) ?_
      refine reg_quiet rfl (step_C tab_ok (fun K hk => hk)) ?_
      refine reg_quiet rfl (step_C tab_ok (fun K hk => hk)) ?_
      refine reg_nil ?_
      refine seq_n ?_
      refine wc_seq ?_
      refine wc_seq ?_
      refine wc_region ?_
      refine reg_quiet rfl (load_box tab_ok rfl rfl rfl rfl) ?_
      refine reg_quiet rfl (load_box tab_ok rfl rfl rfl rfl) ?_
      refine reg_quiet rfl (call_r (same_is p1 p2 q1 q2 sp1 sp2 sq1 sq2) rfl rfl (arg_A rfl rfl lp1 lp2 (arg_A rfl rfl lq1 lq2 arg_nil)) (.inr (bool_plain _)) (fun _ => rfl)) ?_
      refine reg_quiet rfl (step_C tab_ok (fun K hk => hk)) ?_
      refine reg_quiet rfl (step_C tab_ok (fun K hk => hk)) ?_
      refine reg_quiet rfl (step_C tab_ok (fun K hk => hk)) ?_
      refine reg_on rfl rfl (by assumption) ?_
      refine reg_quiet rfl (load_box tab_ok rfl rfl rfl rfl) ?_
      refine reg_on rfl rfl (by assumption) ?_
      refine reg_quiet rfl (load_box tab_ok rfl rfl rfl rfl) ?_
      refine reg_on rfl rfl (by assumption) ?_
      refine reg_quiet rfl (call_r (same_is q1 q2 p1 p2 sq1 sq2 sp1 sp2) rfl rfl (arg_A rfl rfl lq1 lq2 (arg_A rfl rfl lp1 lp2 arg_nil)) (.inr (bool_plain _)) (fun _ => rfl)) ?_
      refine reg_on rfl rfl (by assumption) ?_
      refine reg_quiet rfl (step_C tab_ok (fun K hk => hk)) ?_
      refine reg_on rfl rfl (by assumption) ?_
      refine reg_quiet rfl (step_C tab_ok (fun K hk => hk)) ?_
      refine reg_quiet rfl (pick_F tab_ok rfl (by assumption) rfl) ?_
      refine reg_quiet rfl (step_C tab_ok (fun K hk => hk)) ?_
      refine reg_on rfl rfl (by assumption) ?_
      refine reg_quiet rfl (load_box tab_ok rfl rfl rfl rfl) ?_
      refine reg_on rfl rfl (by assumption) ?_
      refine reg_quiet rfl (load_box tab_ok rfl rfl rfl rfl) ?_
      refine reg_on rfl rfl (by assumption) ?_
      refine reg_quiet rfl (call_r (same_is p1 p2 p1 p2 sp1 sp2 sp1 sp2) rfl rfl (arg_A rfl rfl lp1 lp2 (arg_A rfl rfl lp1 lp2 arg_nil)) (.inr (bool_plain _)) (fun _ => rfl)) ?_
      refine reg_on rfl rfl (by assumption) ?_
      refine reg_quiet rfl (step_C tab_ok (fun K hk => hk)) ?_
      refine reg_quiet rfl (pick_F tab_ok rfl (by assumption) rfl) ?_
      refine reg_nil ?_
      refine seq_n ?_
      refine wc_false rfl (by assumption) ?_
      refine wc_skip ?_
      refine seq_n ?_
      refine wc_seq ?_
      refine wc_seq ?_
      refine wc_region ?_
      refine reg_quiet rfl (step_C tab_ok (fun K hk => hk)) ?_
      refine reg_quiet rfl (load_box tab_ok rfl rfl rfl rfl) ?_
      refine reg_quiet rfl (len_own tab_ok rfl rfl) ?_
      refine reg_quiet rfl (step_C tab_ok (fun K hk => hk)) ?_
      refine reg_quiet rfl (load_box tab_ok rfl rfl rfl rfl) ?_
      refine reg_quiet rfl (len_own tab_ok rfl rfl) ?_
      refine reg_quiet rfl (step_C tab_ok (fun K hk => hk)) ?_
      refine reg_nil ?_
      refine seq_n ?_
      refine wc_false rfl (by assumption) ?_
      refine wc_skip ?_
      refine seq_n ?_
      refine wc_seq ?_
      refine wc_region ?_
      refine reg_quiet rfl (step_C tab_ok (fun K hk => hk)) ?_
      refine reg_nil ?_
      refine seq_n ?_
      refine wc_seq ?_
      refine wc_seq ?_
      refine wc_region ?_
      refine reg_quiet rfl (step_C tab_ok (fun K hk => hk)) ?_
      refine reg_nil ?_
      refine seq_n ?_
      refine wc_block ?_
      refine wc_inv (fun i : Nat => ⟨[(13, .int .i64 i), (12, .int .i64 (diffK p1 q1 i).length), (10, .own 70 0 (diffK p1 q1 p1.length).length 1 (some (diffK p1 q1 p1.length).length)), (11, .int .i64 0), (5, .ptr 64 []), (6, .ptr 67 [])], [(64, some (.box 35 (ownA 65 N none 66 N none))), (65, some (rowB false p1)), (67, some (.box 35 (ownA 68 N none 69 N none))), (68, some (rowB false q1)), (70, some (.ds 3 1 false i6 (diffK p1 q1 p1.length)))], 72, Try.f6.ntmps, 64⟩) (fun i => i ≤ N) (fun i => N - i) 0 [(64, some 120), (65, some 96), (66, some 97), (67, some 128), (68, some 112), (69, some 113), (70, some 336)] (Nat.zero_le _)
        (.of rfl rfl rfl rfl rfl ⟨⟨_, rfl, .refl _⟩, rfl, ⟨_, rfl, .refl _⟩, rfl, ⟨_, rfl, .refl _⟩, rfl, ⟨_, rfl, .refl _⟩, rfl, ⟨_, rfl, .refl _⟩, rfl, ⟨_, rfl, .refl _⟩, rfl, trivial⟩ ⟨⟨rfl, rfl, _, rfl, .refl _⟩, ⟨rfl, rfl, _, rfl, .refl _⟩, ⟨rfl, rfl, _, rfl, .refl _⟩, ⟨rfl, rfl, _, rfl, .refl _⟩, ⟨rfl, rfl, _, rfl, .refl _⟩, trivial⟩) ?_
      intro i hi
      have hdl := diff_len p1 q1 i
      refine wc_of ?_
      refine wc_seq ?_
      refine wc_seq ?_
      refine wc_region ?_
      refine reg_quiet rfl (step_C tab_ok (fun K hk => hk)) ?_
      refine reg_quiet rfl (step_C tab_ok (fun K hk => hk)) ?_
      refine reg_quiet rfl (load_box tab_ok rfl rfl rfl rfl) ?_
      refine reg_quiet rfl (len_own tab_ok rfl rfl) ?_
      refine reg_quiet rfl (step_C tab_ok (fun K hk => hk)) ?_
      refine reg_nil ?_
      refine seq_n ?_
      refine wc_cond rfl (fun h3 => ?_) (fun h3 => ?_)
      · have hlt : i < N := by have := of_decide_eq_true h3; omega
        obtain ⟨f, hf0⟩ : ∃ f, p1[i]? = some f := ⟨_, List.getElem?_eq_getElem (by omega)⟩
        obtain ⟨g, hg0⟩ : ∃ g, q1[i]? = some g := ⟨_, List.getElem?_eq_getElem (by omega)⟩
        have hf : p1[((i : Int)).toNat]? = some f := by rw [Int.toNat_natCast]; exact hf0
        have hg : q1[((i : Int)).toNat]? = some g := by rw [Int.toNat_natCast]; exact hg0
        refine wc_skip ?_
        refine seq_n ?_
        refine wc_seq ?_
        refine wc_block ?_
        refine wc_seq ?_
        refine wc_draw (by kernel_rfl) ?_
        refine dreg_q [5] [64, 65, 66] rfl (step_C tab_ok (fun K hk => hk)) ?_
        refine dreg_q [82] [64, 65, 66] rfl (load_box tab_ok rfl rfl rfl rfl) ?_
        refine dreg_q [13] [] rfl (step_C tab_ok (fun K hk => hk)) ?_
        refine dreg_q [83, 84] [65] rfl (index_own tab_ok rfl rfl rfl rfl rfl (by omega) (by omega)) ?_
        refine dreg_q [85] [65] rfl (load_row (v := .d (encBlock f)) tab_ok rfl rfl ⟨rfl, f, hf, encBlock f, rfl, rfl⟩ rfl) ?_
        refine dreg_q [6] [67, 68, 69] rfl (step_C tab_ok (fun K hk => hk)) ?_
        refine dreg_q [87] [67, 68, 69] rfl (load_box tab_ok rfl rfl rfl rfl) ?_
        refine dreg_q [13] [] rfl (step_C tab_ok (fun K hk => hk)) ?_
        refine dreg_q [88, 89] [68] rfl (index_own tab_ok rfl rfl rfl rfl rfl (by omega) (by omega)) ?_
        refine dreg_q [90] [68] rfl (load_row (v := .d (encBlock g)) tab_ok rfl rfl ⟨rfl, g, hg, encBlock g, rfl, rfl⟩ rfl) ?_
        refine dreg_q [86, 91] [] rfl (neq_data rfl rfl rfl rfl (by kernel_rfl) (by decide) (block_eq f g)) ?_
        refine dreg_end (by kernel_rfl) ?_
        refine seq_n ?_
        refine wc_cond rfl (fun hu => ?_) (fun hu => ?_)
        · have hne : p1[i]? ≠ q1[i]? := by rw [hf0, hg0]; intro e; cases e; simp at hu
          have hs := diff_yes hne
          obtain ⟨hat, hkl⟩ := diff_at (n := p1.length) (by omega) hne
          have hli : (diffK p1 q1 p1.length)[(((diffK p1 q1 i).length : Int)).toNat]? = some (i : Int) := by rw [Int.toNat_natCast]; exact hat
          have c1 : decide (((diffK p1 q1 i).length : Int) ≥ ((diffK p1 q1 p1.length).length : Int)) = false := decide_eq_false (by omega)
          have c2 := refl_no (i : Int)
          refine wc_seq ?_
          refine wc_seq ?_
          refine wc_region ?_
          refine reg_quiet rfl (step_C tab_ok (fun K hk => hk)) ?_
          refine reg_quiet rfl (step_C tab_ok (fun K hk => hk)) ?_
          refine reg_quiet rfl (len_own tab_ok rfl rfl) ?_
          refine reg_quiet rfl (step_C tab_ok (fun K hk => hk)) ?_
          refine reg_quiet rfl (step_C tab_ok (fun K hk => hk)) ?_
          refine reg_on rfl rfl (by assumption) ?_
          refine reg_quiet rfl (step_C tab_ok (fun K hk => hk)) ?_
          refine reg_on rfl rfl (by assumption) ?_
          refine reg_quiet rfl (step_C tab_ok (fun K hk => hk)) ?_
          refine reg_on rfl rfl (by assumption) ?_
          refine reg_quiet rfl (index_own tab_ok rfl rfl rfl rfl rfl (by omega) (by omega)) ?_
          refine reg_on rfl rfl (by assumption) ?_
          refine reg_quiet rfl (load_row (v := .int .i64 i) tab_ok rfl rfl ⟨rfl, (i : Int), hli, i6 i, rfl, rfl⟩ rfl) ?_
          refine reg_on rfl rfl (by assumption) ?_
          refine reg_quiet rfl (step_C tab_ok (fun K hk => hk)) ?_
          refine reg_on rfl rfl (by assumption) ?_
          refine reg_quiet rfl (step_C tab_ok (fun K hk => hk)) ?_
          refine reg_quiet rfl (pick_F tab_ok rfl (by assumption) rfl) ?_
          refine reg_nil ?_
          refine seq_n ?_
          refine wc_false rfl (by assumption) ?_
          refine wc_skip ?_
          refine seq_n ?_
          refine wc_region ?_
          refine reg_quiet rfl (step_C tab_ok (fun K hk => hk)) ?_
          refine reg_quiet rfl (add_int tab_ok rfl rfl (wrap_i64 (by omega) (by omega))) ?_
          refine reg_quiet rfl (step_C tab_ok (fun K hk => hk)) ?_
          refine reg_nil ?_
          refine blk_n ?_
          refine seq_n ?_
          refine wc_region ?_
          refine reg_quiet rfl (step_C tab_ok (fun K hk => hk)) ?_
          refine reg_quiet rfl (add_int tab_ok rfl rfl (wrap_i64 (by omega) (by omega))) ?_
          refine reg_quiet rfl (step_C tab_ok (fun K hk => hk)) ?_
          refine reg_nil ?_
          refine loop_n (i + 1) [(64, some 64), (65, some 65), (67, some 67), (68, some 68), (70, some 70)] (show i + 1 ≤ N from hlt) (show N - (i + 1) < N - i by omega) ?_
          exact .of rfl rfl rfl rfl rfl ⟨⟨_, rfl, .refl _⟩, rfl, ⟨_, rfl, .of_eq (by rw [hs, List.length_append]; rfl)⟩, rfl, ⟨_, rfl, .refl _⟩, rfl, ⟨_, rfl, .refl _⟩, rfl, ⟨_, rfl, .refl _⟩, rfl, ⟨_, rfl, .refl _⟩, rfl, trivial⟩ ⟨⟨rfl, rfl, _, rfl, .refl _⟩, ⟨rfl, rfl, _, rfl, .refl _⟩, ⟨rfl, rfl, _, rfl, .refl _⟩, ⟨rfl, rfl, _, rfl, .refl _⟩, ⟨rfl, rfl, _, rfl, .refl _⟩, trivial⟩
        · have hs := diff_no (a := p1) (c := q1) (k := i) (by rw [hf0, hg0]; simp at hu; rw [hu])
          refine wc_skip ?_
          refine blk_n ?_
          refine seq_n ?_
          refine wc_region ?_
          refine reg_quiet rfl (step_C tab_ok (fun K hk => hk)) ?_
          refine reg_quiet rfl (add_int tab_ok rfl rfl (wrap_i64 (by omega) (by omega))) ?_
          refine reg_quiet rfl (step_C tab_ok (fun K hk => hk)) ?_
          refine reg_nil ?_
          refine loop_n (i + 1) [(64, some 64), (65, some 65), (67, some 67), (68, some 68), (70, some 70)] (show i + 1 ≤ N from hlt) (show N - (i + 1) < N - i by omega) ?_
          exact .of rfl rfl rfl rfl rfl ⟨⟨_, rfl, .refl _⟩, rfl, ⟨_, rfl, .of_eq (by rw [hs]; rfl)⟩, rfl, ⟨_, rfl, .refl _⟩, rfl, ⟨_, rfl, .refl _⟩, rfl, ⟨_, rfl, .refl _⟩, rfl, ⟨_, rfl, .refl _⟩, rfl, trivial⟩ ⟨⟨rfl, rfl, _, rfl, .refl _⟩, ⟨rfl, rfl, _, rfl, .refl _⟩, ⟨rfl, rfl, _, rfl, .refl _⟩, ⟨rfl, rfl, _, rfl, .refl _⟩, ⟨rfl, rfl, _, rfl, .refl _⟩, trivial⟩
      · obtain rfl : i = N := by have := of_decide_eq_false h3; omega
        have e1 : decide (((diffK p1 q1 i).length : Int) = ((diffK p1 q1 p1.length).length : Int)) = true := by rw [← lp1]; simp
        have e2 : decide (((diffK p1 q1 p1.length).length : Int) = ((diffK p1 q1 p1.length).length : Int)) = true := by simp
        refine wc_exit ?_
        refine seq_x ?_
        refine loop_x ?_
        refine blk_x ?_
        refine seq_n ?_
        refine wc_seq ?_
        refine wc_region ?_
        refine reg_quiet rfl (step_C tab_ok (fun K hk => hk)) ?_
        refine reg_quiet rfl (step_C tab_ok (fun K hk => hk)) ?_
        refine reg_quiet rfl (step_C tab_ok (fun K hk => hk)) ?_
        refine reg_on rfl rfl rfl ?_
        refine reg_quiet rfl (step_C tab_ok (fun K hk => hk)) ?_
        refine reg_on rfl rfl rfl ?_
        refine reg_quiet rfl (step_C tab_ok (fun K hk => hk)) ?_
        refine reg_on rfl rfl rfl ?_
        refine reg_quiet rfl (len_own tab_ok rfl rfl) ?_
        refine reg_on rfl rfl rfl ?_
        refine reg_quiet rfl (step_C tab_ok (fun K hk => hk)) ?_
        refine reg_quiet rfl (pick_T tab_ok rfl rfl rfl) ?_
        refine reg_quiet rfl (step_C tab_ok (fun K hk => hk)) ?_
        refine reg_on rfl rfl (by assumption) ?_
        refine reg_quiet rfl (step_C tab_ok (fun K hk => hk)) ?_
        refine reg_on rfl rfl (by assumption) ?_
        refine reg_quiet rfl (cap_own tab_ok rfl rfl) ?_
        refine reg_on rfl rfl (by assumption) ?_
        refine reg_quiet rfl (step_C tab_ok (fun K hk => hk)) ?_
        refine reg_on rfl rfl (by assumption) ?_
        refine reg_quiet rfl (len_own tab_ok rfl rfl) ?_
        refine reg_on rfl rfl (by assumption) ?_
        refine reg_quiet rfl (step_C tab_ok (fun K hk => hk)) ?_
        refine reg_quiet rfl (pick_T tab_ok rfl (by assumption) rfl) ?_
        refine reg_quiet rfl (step_C tab_ok (fun K hk => hk)) ?_
        refine reg_on rfl rfl (by assumption) ?_
        refine reg_quiet rfl (call_r lives_is rfl rfl arg_nil (.inl rfl) (fun _ => rfl)) ?_
        refine reg_quiet rfl (pick_T tab_ok rfl (by assumption) rfl) ?_
        refine reg_quiet rfl (step_C tab_ok (fun K hk => hk)) ?_
        refine reg_nil ?_
        refine seq_n ?_
        refine wc_ret ?_
        exact ⟨trivial, [], .of rfl rfl rfl rfl rfl ⟨⟨_, rfl, AVLe.of_eq rfl⟩, rfl, trivial⟩ trivial⟩
    | false =>
      rw [h1, Bool.false_and] at hv
      rw [← hv] at f1 f2
      refine fnIs_of tab_ok Try.func6 rfl rfl rfl ?_
      refine wc_seq ?_
      refine wc_region ?_
      refine reg_new (step_C tab_ok (fun K hk => hk)) rfl ?_
      refine reg_new (step_C tab_ok (fun K hk => hk)) rfl ?_
      refine reg_quiet rfl (step_C tab_ok (fun K hk => hk)) ?_
      refine reg_nil ?_
      refine seq_n ?_
      refine wc_seq ?_
      refine wc_draw (by kernel_rfl) ?_
      refine dreg_q [2] [64] rfl (load_box tab_ok rfl rfl rfl rfl) ?_
      refine dreg_w2 [14] [] rfl (call_new hR1 rfl rfl (arg_e arg_nil) (.inl rfl) rfl rfl) ?_
      refine dreg_q [3] [72] rfl (load_box tab_ok rfl rfl rfl rfl) ?_
      refine dreg_w2 [16] [] rfl (call_new hR2 rfl rfl (arg_e arg_nil) (.inl rfl) rfl rfl) ?_
      refine dreg_w [] [] rfl (step_C tab_ok (fun K hk => hk)) ?_
      refine dreg_w [] [] rfl (step_C tab_ok (fun K hk => hk)) ?_
      refine dreg_s [5, 15] [120, 96, 97] (store_row tab_ok rfl rfl rfl ⟨_, ⟨rfl, rfl, rfl⟩, rfl⟩ rfl) ?_
      refine dreg_s [6, 17] [128, 112, 113] (store_row tab_ok rfl rfl rfl ⟨_, ⟨rfl, rfl, rfl⟩, rfl⟩ rfl) ?_
      refine dreg_end (by kernel_rfl) ?_
      refine seq_n ?_
      refine wc_seq ?_
      refine wc_draw (by kernel_rfl) ?_
      refine dreg_q [5] [120, 96, 97] rfl (load_box tab_ok rfl rfl rfl rfl) ?_
      refine dreg_w2 [18] [96, 97] rfl (call_new hY1 rfl rfl (arg_A rfl rfl lp1 lp2 arg_nil) (.inr (own_plain _ _ _ _ _ _ _ _)) rfl rfl) ?_
      refine dreg_q [6] [128, 112, 113] rfl (load_box tab_ok rfl rfl rfl rfl) ?_
      refine dreg_w2 [20] [112, 113] rfl (call_new hY2 rfl rfl (arg_A rfl rfl lq1 lq2 arg_nil) (.inr (own_plain _ _ _ _ _ _ _ _)) rfl rfl) ?_
      refine dreg_w [] [] rfl (step_C tab_ok (fun K hk => hk)) ?_
      refine dreg_w [] [] rfl (step_C tab_ok (fun K hk => hk)) ?_
      refine dreg_s [7, 19] [184, 160, 161] (store_row tab_ok rfl rfl rfl ⟨_, ⟨rfl, rfl, rfl⟩, rfl⟩ rfl) ?_
      refine dreg_s [8, 21] [192, 176, 177] (store_row tab_ok rfl rfl rfl ⟨_, ⟨rfl, rfl, rfl⟩, rfl⟩ rfl) ?_
      refine dreg_end (by kernel_rfl) ?_
      refine seq_n ?_
      refine wc_seq ?_
      refine wc_region ?_
      refine reg_quiet rfl (step_C tab_ok (fun K hk => hk)) ?_
      refine reg_quiet rfl (load_box tab_ok rfl rfl rfl rfl) ?_
      refine reg_quiet rfl (step_C tab_ok (fun K hk => hk)) ?_
      refine reg_quiet rfl (load_box tab_ok rfl rfl rfl rfl) ?_
      refine reg_quiet rfl (call_r (refsame_is p1 q1 sp1 sq1) rfl rfl (arg_ownL rfl lp1 (arg_ownL rfl lq1 arg_nil)) (.inr (bool_plain _)) (fun _ => rfl)) ?_
      refine reg_quiet rfl (step_C tab_ok (fun K hk => hk)) ?_
      refine reg_skip rfl rfl (by assumption) rfl rfl ?_
      refine reg_skip rfl rfl (by assumption) rfl rfl ?_
      refine reg_skip rfl rfl (by assumption) rfl rfl ?_
      refine reg_skip rfl rfl (by assumption) rfl rfl ?_
      refine reg_skip rfl rfl (by assumption) rfl rfl ?_
      refine reg_quiet rfl (pick_F tab_ok rfl (by assumption) rfl) ?_
      refine reg_quiet rfl (step_C tab_ok (fun K hk => hk)) ?_
      refine reg_nil ?_
      refine seq_n ?_
      refine wc_seq ?_
      refine wc_region ?_
      refine reg_quiet rfl (load_box tab_ok rfl rfl rfl rfl) ?_
      refine reg_quiet rfl (load_box tab_ok rfl rfl rfl rfl) ?_
      refine reg_new (call_new hDf rfl rfl (arg_A rfl rfl lp1 lp2 (arg_A rfl rfl lq1 lq2 arg_nil)) (.inr (diff_plain _ _ _ _ _)) rfl rfl) rfl ?_
      refine reg_quiet rfl (step_C tab_ok (fun K hk => hk)) ?_
      refine reg_quiet rfl (step_C tab_ok (fun K hk => hk)) ?_
      refine reg_quiet rfl (step_C tab_ok (fun K hk => hk)) ?_
      refine reg_quiet rfl (step_C tab_ok (fun K hk => hk)) ?_
      refine reg_quiet rfl (step_C tab_ok (fun K hk => hk)) ?_
      refine reg_nil ?_
      refine seq_n ?_
      refine wc_seq ?_
      refine wc_seq ?_
      refine wc_region ?_
      refine reg_quiet rfl (load_box tab_ok rfl rfl rfl rfl) ?_
      refine reg_quiet rfl (load_box tab_ok rfl rfl rfl rfl) ?_
      refine reg_quiet rfl (call_r (same_is p1 p2 q1 q2 sp1 sp2 sq1 sq2) rfl rfl (arg_A rfl rfl lp1 lp2 (arg_A rfl rfl lq1 lq2 arg_nil)) (.inr (bool_plain _)) (fun _ => rfl)) ?_
      refine reg_quiet rfl (step_C tab_ok (fun K hk => hk)) ?_
      refine reg_quiet rfl (step_C tab_ok (fun K hk => hk)) ?_
      refine reg_quiet rfl (step_C tab_ok (fun K hk => hk)) ?_
      refine reg_on rfl rfl (by assumption) ?_
      refine reg_quiet rfl (load_box tab_ok rfl rfl rfl rfl) ?_
      refine reg_on rfl rfl (by assumption) ?_
      refine reg_quiet rfl (load_box tab_ok rfl rfl rfl rfl) ?_
      refine reg_on rfl rfl (by assumption) ?_
      refine reg_quiet rfl (call_r (same_is q1 q2 p1 p2 sq1 sq2 sp1 sp2) rfl rfl (arg_A rfl rfl lq1 lq2 (arg_A rfl rfl lp1 lp2 arg_nil)) (.inr (bool_plain _)) (fun _ => rfl)) ?_
      refine reg_on rfl rfl (by assumption) ?_
      refine reg_quiet rfl (step_C tab_ok (fun K hk => hk)) ?_
      refine reg_on rfl rfl (by assumption) ?_
      refine reg_quiet rfl (step_C tab_ok (fun K hk => hk)) ?_
      refine reg_quiet rfl (pick_F tab_ok rfl (by assumption) rfl) ?_
      refine reg_quiet rfl (step_C tab_ok (fun K hk => hk)) ?_
      refine reg_on rfl rfl (by assumption) ?_
      refine reg_quiet rfl (load_box tab_ok rfl rfl rfl rfl) ?_
      refine reg_on rfl rfl (by assumption) ?_
      refine reg_quiet rfl (load_box tab_ok rfl rfl rfl rfl) ?_
      refine reg_on rfl rfl (by assumption) ?_
      refine reg_quiet rfl (call_r (same_is p1 p2 p1 p2 sp1 sp2 sp1 sp2) rfl rfl (arg_A rfl rfl lp1 lp2 (arg_A rfl rfl lp1 lp2 arg_nil)) (.inr (bool_plain _)) (fun _ => rfl)) ?_
      refine reg_on rfl rfl (by assumption) ?_
      refine reg_quiet rfl (step_C tab_ok (fun K hk => hk)) ?_
      refine reg_quiet rfl (pick_F tab_ok rfl (by assumption) rfl) ?_
      refine reg_nil ?_
      refine seq_n ?_
      refine wc_false rfl (by assumption) ?_
      refine wc_skip ?_
      refine seq_n ?_
      refine wc_seq ?_
      refine wc_seq ?_
      refine wc_region ?_
      refine reg_quiet rfl (step_C tab_ok (fun K hk => hk)) ?_
      refine reg_quiet rfl (load_box tab_ok rfl rfl rfl rfl) ?_
      refine reg_quiet rfl (len_own tab_ok rfl rfl) ?_
      refine reg_quiet rfl (step_C tab_ok (fun K hk => hk)) ?_
      refine reg_quiet rfl (load_box tab_ok rfl rfl rfl rfl) ?_
      refine reg_quiet rfl (len_own tab_ok rfl rfl) ?_
      refine reg_quiet rfl (step_C tab_ok (fun K hk => hk)) ?_
      refine reg_nil ?_
      refine seq_n ?_
      refine wc_false rfl (by assumption) ?_
      refine wc_skip ?_
      refine seq_n ?_
      refine wc_seq ?_
      refine wc_region ?_
      refine reg_quiet rfl (step_C tab_ok (fun K hk => hk)) ?_
      refine reg_nil ?_
      refine seq_n ?_
      refine wc_seq ?_
      refine wc_seq ?_
      refine wc_region ?_
      refine reg_quiet rfl (step_C tab_ok (fun K hk => hk)) ?_
      refine reg_nil ?_
      refine seq_n ?_
      refine wc_block ?_
      refine wc_inv (fun i : Nat => ⟨[(13, .int .i64 i), (12, .int .i64 (diffK p1 q1 i).length), (10, .own 70 0 (diffK p1 q1 p1.length).length 1 (some (diffK p1 q1 p1.length).length)), (11, .int .i64 0), (5, .ptr 64 []), (6, .ptr 67 [])], [(64, some (.box 35 (ownA 65 N none 66 N none))), (65, some (rowB false p1)), (67, some (.box 35 (ownA 68 N none 69 N none))), (68, some (rowB false q1)), (70, some (.ds 3 1 false i6 (diffK p1 q1 p1.length)))], 72, Try.f6.ntmps, 64⟩) (fun i => i ≤ N) (fun i => N - i) 0 [(64, some 120), (65, some 96), (66, some 97), (67, some 128), (68, some 112), (69, some 113), (70, some 336)] (Nat.zero_le _)
        (.of rfl rfl rfl rfl rfl ⟨⟨_, rfl, .refl _⟩, rfl, ⟨_, rfl, .refl _⟩, rfl, ⟨_, rfl, .refl _⟩, rfl, ⟨_, rfl, .refl _⟩, rfl, ⟨_, rfl, .refl _⟩, rfl, ⟨_, rfl, .refl _⟩, rfl, trivial⟩ ⟨⟨rfl, rfl, _, rfl, .refl _⟩, ⟨rfl, rfl, _, rfl, .refl _⟩, ⟨rfl, rfl, _, rfl, .refl _⟩, ⟨rfl, rfl, _, rfl, .refl _⟩, ⟨rfl, rfl, _, rfl, .refl _⟩, trivial⟩) ?_
      intro i hi
      have hdl := diff_len p1 q1 i
      refine wc_of ?_
      refine wc_seq ?_
      refine wc_seq ?_
      refine wc_region ?_
      refine reg_quiet rfl (step_C tab_ok (fun K hk => hk)) ?_
      refine reg_quiet rfl (step_C tab_ok (fun K hk => hk)) ?_
      refine reg_quiet rfl (load_box tab_ok rfl rfl rfl rfl) ?_
      refine reg_quiet rfl (len_own tab_ok rfl rfl) ?_
      refine reg_quiet rfl (step_C tab_ok (fun K hk => hk)) ?_
      refine reg_nil ?_
      refine seq_n ?_
      refine wc_cond rfl (fun h3 => ?_) (fun h3 => ?_)
      · have hlt : i < N := by have := of_decide_eq_true h3; omega
        obtain ⟨f, hf0⟩ : ∃ f, p1[i]? = some f := ⟨_, List.getElem?_eq_getElem (by omega)⟩
        obtain ⟨g, hg0⟩ : ∃ g, q1[i]? = some g := ⟨_, List.getElem?_eq_getElem (by omega)⟩
        have hf : p1[((i : Int)).toNat]? = some f := by rw [Int.toNat_natCast]; exact hf0
        have hg : q1[((i : Int)).toNat]? = some g := by rw [Int.toNat_natCast]; exact hg0
        refine wc_skip ?_
        refine seq_n ?_
        refine wc_seq ?_
        refine wc_block ?_
        refine wc_seq ?_
        refine wc_draw (by kernel_rfl) ?_
        refine dreg_q [5] [64, 65, 66] rfl (step_C tab_ok (fun K hk => hk)) ?_
        refine dreg_q [82] [64, 65, 66] rfl (load_box tab_ok rfl rfl rfl rfl) ?_
        refine dreg_q [13] [] rfl (step_C tab_ok (fun K hk => hk)) ?_
        refine dreg_q [83, 84] [65] rfl (index_own tab_ok rfl rfl rfl rfl rfl (by omega) (by omega)) ?_
        refine dreg_q [85] [65] rfl (load_row (v := .d (encBlock f)) tab_ok rfl rfl ⟨rfl, f, hf, encBlock f, rfl, rfl⟩ rfl) ?_
        refine dreg_q [6] [67, 68, 69] rfl (step_C tab_ok (fun K hk => hk)) ?_
        refine dreg_q [87] [67, 68, 69] rfl (load_box tab_ok rfl rfl rfl rfl) ?_
        refine dreg_q [13] [] rfl (step_C tab_ok (fun K hk => hk)) ?_
        refine dreg_q [88, 89] [68] rfl (index_own tab_ok rfl rfl rfl rfl rfl (by omega) (by omega)) ?_
        refine dreg_q [90] [68] rfl (load_row (v := .d (encBlock g)) tab_ok rfl rfl ⟨rfl, g, hg, encBlock g, rfl, rfl⟩ rfl) ?_
        refine dreg_q [86, 91] [] rfl (neq_data rfl rfl rfl rfl (by kernel_rfl) (by decide) (block_eq f g)) ?_
        refine dreg_end (by kernel_rfl) ?_
        refine seq_n ?_
        refine wc_cond rfl (fun hu => ?_) (fun hu => ?_)
        · have hne : p1[i]? ≠ q1[i]? := by rw [hf0, hg0]; intro e; cases e; simp at hu
          have hs := diff_yes hne
          obtain ⟨hat, hkl⟩ := diff_at (n := p1.length) (by omega) hne
          have hli : (diffK p1 q1 p1.length)[(((diffK p1 q1 i).length : Int)).toNat]? = some (i : Int) := by rw [Int.toNat_natCast]; exact hat
          have c1 : decide (((diffK p1 q1 i).length : Int) ≥ ((diffK p1 q1 p1.length).length : Int)) = false := decide_eq_false (by omega)
          have c2 := refl_no (i : Int)
          refine wc_seq ?_
          refine wc_seq ?_
          refine wc_region ?_
          refine reg_quiet rfl (step_C tab_ok (fun K hk => hk)) ?_
          refine reg_quiet rfl (step_C tab_ok (fun K hk => hk)) ?_
          refine reg_quiet rfl (len_own tab_ok rfl rfl) ?_
          refine reg_quiet rfl (step_C tab_ok (fun K hk => hk)) ?_
          refine reg_quiet rfl (step_C tab_ok (fun K hk => hk)) ?_
          refine reg_on rfl rfl (by assumption) ?_
          refine reg_quiet rfl (step_C tab_ok (fun K hk => hk)) ?_
          refine reg_on rfl rfl (by assumption) ?_
          refine reg_quiet rfl (step_C tab_ok (fun K hk => hk)) ?_
          refine reg_on rfl rfl (by assumption) ?_
          refine reg_quiet rfl (index_own tab_ok rfl rfl rfl rfl rfl (by omega) (by omega)) ?_
          refine reg_on rfl rfl (by assumption) ?_
          refine reg_quiet rfl (load_row (v := .int .i64 i) tab_ok rfl rfl ⟨rfl, (i : Int), hli, i6 i, rfl, rfl⟩ rfl) ?_
          refine reg_on rfl rfl (by assumption) ?_
          refine reg_quiet rfl (step_C tab_ok (fun K hk => hk)) ?_
          refine reg_on rfl rfl (by assumption) ?_
          refine reg_quiet rfl (step_C tab_ok (fun K hk => hk)) ?_
          refine reg_quiet rfl (pick_F tab_ok rfl (by assumption) rfl) ?_
          refine reg_nil ?_
          refine seq_n ?_
          refine wc_false rfl (by assumption) ?_
          refine wc_skip ?_
          refine seq_n ?_
          refine wc_region ?_
          refine reg_quiet rfl (step_C tab_ok (fun K hk => hk)) ?_
          refine reg_quiet rfl (add_int tab_ok rfl rfl (wrap_i64 (by omega) (by omega))) ?_
          refine reg_quiet rfl (step_C tab_ok (fun K hk => hk)) ?_
          refine reg_nil ?_
          refine blk_n ?_
          refine seq_n ?_
          refine wc_region ?_
          refine reg_quiet rfl (step_C tab_ok (fun K hk => hk)) ?_
          refine reg_quiet rfl (add_int tab_ok rfl rfl (wrap_i64 (by omega) (by omega))) ?_
          refine reg_quiet rfl (step_C tab_ok (fun K hk => hk)) ?_
          refine reg_nil ?_
          refine loop_n (i + 1) [(64, some 64), (65, some 65), (67, some 67), (68, some 68), (70, some 70)] (show i + 1 ≤ N from hlt) (show N - (i + 1) < N - i by omega) ?_
          exact .of rfl rfl rfl rfl rfl ⟨⟨_, rfl, .refl _⟩, rfl, ⟨_, rfl, .of_eq (by rw [hs, List.length_append]; rfl)⟩, rfl, ⟨_, rfl, .refl _⟩, rfl, ⟨_, rfl, .refl _⟩, rfl, ⟨_, rfl, .refl _⟩, rfl, ⟨_, rfl, .refl _⟩, rfl, trivial⟩ ⟨⟨rfl, rfl, _, rfl, .refl _⟩, ⟨rfl, rfl, _, rfl, .refl _⟩, ⟨rfl, rfl, _, rfl, .refl _⟩, ⟨rfl, rfl, _, rfl, .refl _⟩, ⟨rfl, rfl, _, rfl, .refl _⟩, trivial⟩
        · have hs := diff_no (a := p1) (c := q1) (k := i) (by rw [hf0, hg0]; simp at hu; rw [hu])
          refine wc_skip ?_
          refine blk_n ?_
          refine seq_n ?_
          refine wc_region ?_
          refine reg_quiet rfl (step_C tab_ok (fun K hk => hk)) ?_
          refine reg_quiet rfl (add_int tab_ok rfl rfl (wrap_i64 (by omega) (by omega))) ?_
          refine reg_quiet rfl (step_C tab_ok (fun K hk => hk)) ?_
          refine reg_nil ?_
          refine loop_n (i + 1) [(64, some 64), (65, some 65), (67, some 67), (68, some 68), (70, some 70)] (show i + 1 ≤ N from hlt) (show N - (i + 1) < N - i by omega) ?_
          exact .of rfl rfl rfl rfl rfl ⟨⟨_, rfl, .refl _⟩, rfl, ⟨_, rfl, .of_eq (by rw [hs]; rfl)⟩, rfl, ⟨_, rfl, .refl _⟩, rfl, ⟨_, rfl, .refl _⟩, rfl, ⟨_, rfl, .refl _⟩, rfl, ⟨_, rfl, .refl _⟩, rfl, trivial⟩ ⟨⟨rfl, rfl, _, rfl, .refl _⟩, ⟨rfl, rfl, _, rfl, .refl _⟩, ⟨rfl, rfl, _, rfl, .refl _⟩, ⟨rfl, rfl, _, rfl, .refl _⟩, ⟨rfl, rfl, _, rfl, .refl _⟩, trivial⟩
      · obtain rfl : i = N := by have := of_decide_eq_false h3; omega
        have e1 : decide (((diffK p1 q1 i).length : Int) = ((diffK p1 q1 p1.length).length : Int)) = true := by rw [← lp1]; simp
        have e2 : decide (((diffK p1 q1 p1.length).length : Int) = ((diffK p1 q1 p1.length).length : Int)) = true := by simp
        refine wc_exit ?_
        refine seq_x ?_
        refine loop_x ?_
        refine blk_x ?_
        refine seq_n ?_
        refine wc_seq ?_
        refine wc_region ?_
        refine reg_quiet rfl (step_C tab_ok (fun K hk => hk)) ?_
        refine reg_quiet rfl (step_C tab_ok (fun K hk => hk)) ?_
        refine reg_quiet rfl (step_C tab_ok (fun K hk => hk)) ?_
        refine reg_on rfl rfl rfl ?_
        refine reg_quiet rfl (step_C tab_ok (fun K hk => hk)) ?_
        refine reg_on rfl rfl rfl ?_
        refine reg_quiet rfl (step_C tab_ok (fun K hk => hk)) ?_
        refine reg_on rfl rfl rfl ?_
        refine reg_quiet rfl (len_own tab_ok rfl rfl) ?_
        refine reg_on rfl rfl rfl ?_
        refine reg_quiet rfl (step_C tab_ok (fun K hk => hk)) ?_
        refine reg_quiet rfl (pick_T tab_ok rfl rfl rfl) ?_
        refine reg_quiet rfl (step_C tab_ok (fun K hk => hk)) ?_
        refine reg_on rfl rfl (by assumption) ?_
        refine reg_quiet rfl (step_C tab_ok (fun K hk => hk)) ?_
        refine reg_on rfl rfl (by assumption) ?_
        refine reg_quiet rfl (cap_own tab_ok rfl rfl) ?_
        refine reg_on rfl rfl (by assumption) ?_
        refine reg_quiet rfl (step_C tab_ok (fun K hk => hk)) ?_
        refine reg_on rfl rfl (by assumption) ?_
        refine reg_quiet rfl (len_own tab_ok rfl rfl) ?_
        refine reg_on rfl rfl (by assumption) ?_
        refine reg_quiet rfl (step_C tab_ok (fun K hk => hk)) ?_
        refine reg_quiet rfl (pick_T tab_ok rfl (by assumption) rfl) ?_
        refine reg_quiet rfl (step_C tab_ok (fun K hk => hk)) ?_
        refine reg_on rfl rfl (by assumption) ?_
        refine reg_quiet rfl (call_r lives_is rfl rfl arg_nil (.inl rfl) (fun _ => rfl)) ?_
        refine reg_quiet rfl (pick_T tab_ok rfl (by assumption) rfl) ?_
        refine reg_quiet rfl (step_C tab_ok (fun K hk => hk)) ?_
        refine reg_nil ?_
        refine seq_n ?_
        refine wc_ret ?_
        exact ⟨trivial, [], .of rfl rfl rfl rfl rfl ⟨⟨_, rfl, AVLe.of_eq rfl⟩, rfl, trivial⟩ trivial⟩
  · have hDe := differ_len p1 p2 q1 q2 o1 o2 (decide_eq_false (by omega))
    have d1 : (!decide ((N : Int) = (M : Int))) = true := by rw [decide_eq_false (by omega)]; rfl
    cases h1 : decide (p1 = q1) with
    | true =>
      rw [h1, Bool.true_and] at hv
      rw [← hv] at f1 f2
      refine fnIs_of tab_ok Try.func6 rfl rfl rfl ?_
      refine wc_seq ?_
      refine wc_region ?_
      refine reg_new (step_C tab_ok (fun K hk => hk)) rfl ?_
      refine reg_new (step_C tab_ok (fun K hk => hk)) rfl ?_
      refine reg_quiet rfl (step_C tab_ok (fun K hk => hk)) ?_
      refine reg_nil ?_
      refine seq_n ?_
      refine wc_seq ?_
      refine wc_draw (by kernel_rfl) ?_
      refine dreg_q [2] [64] rfl (load_box tab_ok rfl rfl rfl rfl) ?_
      refine dreg_w2 [14] [] rfl (call_new hR1 rfl rfl (arg_e arg_nil) (.inl rfl) rfl rfl) ?_
      refine dreg_q [3] [72] rfl (load_box tab_ok rfl rfl rfl rfl) ?_
      refine dreg_w2 [16] [] rfl (call_new hR2 rfl rfl (arg_e arg_nil) (.inl rfl) rfl rfl) ?_
      refine dreg_w [] [] rfl (step_C tab_ok (fun K hk => hk)) ?_
      refine dreg_w [] [] rfl (step_C tab_ok (fun K hk => hk)) ?_
      refine dreg_s [5, 15] [120, 96, 97] (store_row tab_ok rfl rfl rfl ⟨_, ⟨rfl, rfl, rfl⟩, rfl⟩ rfl) ?_
      refine dreg_s [6, 17] [128, 112, 113] (store_row tab_ok rfl rfl rfl ⟨_, ⟨rfl, rfl, rfl⟩, rfl⟩ rfl) ?_
      refine dreg_end (by kernel_rfl) ?_
      refine seq_n ?_
      refine wc_seq ?_
      refine wc_draw (by kernel_rfl) ?_
      refine dreg_q [5] [120, 96, 97] rfl (load_box tab_ok rfl rfl rfl rfl) ?_
      refine dreg_w2 [18] [96, 97] rfl (call_new hY1 rfl rfl (arg_A rfl rfl lp1 lp2 arg_nil) (.inr (own_plain _ _ _ _ _ _ _ _)) rfl rfl) ?_
      refine dreg_q [6] [128, 112, 113] rfl (load_box tab_ok rfl rfl rfl rfl) ?_
      refine dreg_w2 [20] [112, 113] rfl (call_new hY2 rfl rfl (arg_A rfl rfl lq1 lq2 arg_nil) (.inr (own_plain _ _ _ _ _ _ _ _)) rfl rfl) ?_
      refine dreg_w [] [] rfl (step_C tab_ok (fun K hk => hk)) ?_
      refine dreg_w [] [] rfl (step_C tab_ok (fun K hk => hk)) ?_
      refine dreg_s [7, 19] [184, 160, 161] (store_row tab_ok rfl rfl rfl ⟨_, ⟨rfl, rfl, rfl⟩, rfl⟩ rfl) ?_
      refine dreg_s [8, 21] [192, 176, 177] (store_row tab_ok rfl rfl rfl ⟨_, ⟨rfl, rfl, rfl⟩, rfl⟩ rfl) ?_
      refine dreg_end (by kernel_rfl) ?_
      refine seq_n ?_
      refine wc_seq ?_
      refine wc_region ?_
      refine reg_quiet rfl (step_C tab_ok (fun K hk => hk)) ?_
      refine reg_quiet rfl (load_box tab_ok rfl rfl rfl rfl) ?_
      refine reg_quiet rfl (step_C tab_ok (fun K hk => hk)) ?_
      refine reg_quiet rfl (load_box tab_ok rfl rfl rfl rfl) ?_
      refine reg_quiet rfl (call_r (refsame_is p1 q1 sp1 sq1) rfl rfl (arg_ownL rfl lp1 (arg_ownL rfl lq1 arg_nil)) (.inr (bool_plain _)) (fun _ => rfl)) ?_
      refine reg_quiet rfl (step_C tab_ok (fun K hk => hk)) ?_
      refine reg_on rfl rfl (by assumption) ?_
      refine reg_quiet rfl (step_C tab_ok (fun K hk => hk)) ?_
      refine reg_on rfl rfl (by assumption) ?_
      refine reg_quiet rfl (load_box tab_ok rfl rfl rfl rfl) ?_
      refine reg_on rfl rfl (by assumption) ?_
      refine reg_quiet rfl (step_C tab_ok (fun K hk => hk)) ?_
      refine reg_on rfl rfl (by assumption) ?_
      refine reg_quiet rfl (load_box tab_ok rfl rfl rfl rfl) ?_
      refine reg_on rfl rfl (by assumption) ?_
      refine reg_quiet rfl (call_r (refsame_is p2 q2 sp2 sq2) rfl rfl (arg_ownL rfl lp2 (arg_ownL rfl lq2 arg_nil)) (.inr (bool_plain _)) (fun _ => rfl)) ?_
      refine reg_quiet rfl (pick_T tab_ok rfl (by assumption) rfl) ?_
      refine reg_quiet rfl (step_C tab_ok (fun K hk => hk)) ?_
      refine reg_nil ?_
      refine seq_n ?_
      refine wc_seq ?_
      refine wc_region ?_
      refine reg_quiet rfl (load_box tab_ok rfl rfl rfl rfl) ?_
      refine reg_quiet rfl (load_box tab_ok rfl rfl rfl rfl) ?_
      refine reg_quiet rfl (call_r hDe rfl rfl (arg_A rfl rfl lp1 lp2 (arg_A rfl rfl lq1 lq2 arg_nil)) (.inr (errL_plain _)) (fun _ => rfl)) ?_
      refine reg_quiet rfl (step_C tab_ok (fun K hk => hk)) ?_
      refine reg_quiet rfl (step_C tab_ok (fun K hk => hk)) ?_
      refine reg_quiet rfl (step_C tab_ok (fun K hk => hk)) ?_
      refine reg_quiet rfl (step_C tab_ok (fun K hk => hk)) ?_
      refine reg_quiet rfl (step_C tab_ok (fun K hk => hk)) ?_
      refine reg_nil ?_
      refine seq_n ?_
      refine wc_seq ?_
      refine wc_seq ?_
      refine wc_region ?_
      refine reg_quiet rfl (load_box tab_ok rfl rfl rfl rfl) ?_
      refine reg_quiet rfl (load_box tab_ok rfl rfl rfl rfl) ?_
      refine reg_quiet rfl (call_r (same_is p1 p2 q1 q2 sp1 sp2 sq1 sq2) rfl rfl (arg_A rfl rfl lp1 lp2 (arg_A rfl rfl lq1 lq2 arg_nil)) (.inr (bool_plain _)) (fun _ => rfl)) ?_
      refine reg_quiet rfl (step_C tab_ok (fun K hk => hk)) ?_
      refine reg_quiet rfl (step_C tab_ok (fun K hk => hk)) ?_
      refine reg_quiet rfl (step_C tab_ok (fun K hk => hk)) ?_
      refine reg_on rfl rfl (by assumption) ?_
      refine reg_quiet rfl (load_box tab_ok rfl rfl rfl rfl) ?_
      refine reg_on rfl rfl (by assumption) ?_
      refine reg_quiet rfl (load_box tab_ok rfl rfl rfl rfl) ?_
      refine reg_on rfl rfl (by assumption) ?_
      refine reg_quiet rfl (call_r (same_is q1 q2 p1 p2 sq1 sq2 sp1 sp2) rfl rfl (arg_A rfl rfl lq1 lq2 (arg_A rfl rfl lp1 lp2 arg_nil)) (.inr (bool_plain _)) (fun _ => rfl)) ?_
      refine reg_on rfl rfl (by assumption) ?_
      refine reg_quiet rfl (step_C tab_ok (fun K hk => hk)) ?_
      refine reg_on rfl rfl (by assumption) ?_
      refine reg_quiet rfl (step_C tab_ok (fun K hk => hk)) ?_
      refine reg_quiet rfl (pick_F tab_ok rfl (by assumption) rfl) ?_
      refine reg_quiet rfl (step_C tab_ok (fun K hk => hk)) ?_
      refine reg_on rfl rfl (by assumption) ?_
      refine reg_quiet rfl (load_box tab_ok rfl rfl rfl rfl) ?_
      refine reg_on rfl rfl (by assumption) ?_
      refine reg_quiet rfl (load_box tab_ok rfl rfl rfl rfl) ?_
      refine reg_on rfl rfl (by assumption) ?_
      refine reg_quiet rfl (call_r (same_is p1 p2 p1 p2 sp1 sp2 sp1 sp2) rfl rfl (arg_A rfl rfl lp1 lp2 (arg_A rfl rfl lp1 lp2 arg_nil)) (.inr (bool_plain _)) (fun _ => rfl)) ?_
      refine reg_on rfl rfl (by assumption) ?_
      refine reg_quiet rfl (step_C tab_ok (fun K hk => hk)) ?_
      refine reg_quiet rfl (pick_F tab_ok rfl (by assumption) rfl) ?_
      refine reg_nil ?_
      refine seq_n ?_
      refine wc_false rfl (by assumption) ?_
      refine wc_skip ?_
      refine seq_n ?_
      refine wc_seq ?_
      refine wc_seq ?_
      refine wc_region ?_
      refine reg_quiet rfl (step_C tab_ok (fun K hk => hk)) ?_
      refine reg_quiet rfl (load_box tab_ok rfl rfl rfl rfl) ?_
      refine reg_quiet rfl (len_own tab_ok rfl rfl) ?_
      refine reg_quiet rfl (step_C tab_ok (fun K hk => hk)) ?_
      refine reg_quiet rfl (load_box tab_ok rfl rfl rfl rfl) ?_
      refine reg_quiet rfl (len_own tab_ok rfl rfl) ?_
      refine reg_quiet rfl (step_C tab_ok (fun K hk => hk)) ?_
      refine reg_nil ?_
      refine seq_n ?_
      refine wc_true rfl (by assumption) ?_
      refine wc_seq ?_
      refine wc_region ?_
      refine reg_quiet rfl (step_C tab_ok (fun K hk => hk)) ?_
      refine reg_quiet rfl (step_C tab_ok (fun K hk => hk)) ?_
      refine reg_quiet rfl (step_C tab_ok (fun K hk => hk)) ?_
      refine reg_on rfl rfl rfl ?_
      refine reg_quiet rfl (step_C tab_ok (fun K hk => hk)) ?_
      refine reg_on rfl rfl rfl ?_
      refine reg_quiet rfl (len_nil tab_ok rfl rfl) ?_
      refine reg_on rfl rfl rfl ?_
      refine reg_quiet rfl (step_C tab_ok (fun K hk => hk)) ?_
      refine reg_quiet rfl (pick_T tab_ok rfl rfl rfl) ?_
      refine reg_quiet rfl (step_C tab_ok (fun K hk => hk)) ?_
      refine reg_on rfl rfl rfl ?_
      refine reg_quiet rfl (call_r lives_is rfl rfl arg_nil (.inl rfl) (fun _ => rfl)) ?_
      refine reg_quiet rfl (pick_T tab_ok rfl rfl rfl) ?_
      refine reg_quiet rfl (step_C tab_ok (fun K hk => hk)) ?_
      refine reg_nil ?_
      refine seq_n ?_
      refine wc_ret ?_
      refine seq_r ?_
      exact ⟨trivial, [], .of rfl rfl rfl rfl rfl ⟨⟨_, rfl, AVLe.of_eq rfl⟩, rfl, trivial⟩ trivial⟩
    | false =>
      rw [h1, Bool.false_and] at hv
      rw [← hv] at f1 f2
      refine fnIs_of tab_ok Try.func6 rfl rfl rfl ?_
      refine wc_seq ?_
      refine wc_region ?_
      refine reg_new (step_C tab_ok (fun K hk => hk)) rfl ?_
      refine reg_new (step_C tab_ok (fun K hk => hk)) rfl ?_
      refine reg_quiet rfl (step_C tab_ok (fun K hk => hk)) ?_
      refine reg_nil ?_
      refine seq_n ?_
      refine wc_seq ?_
      refine wc_draw (by kernel_rfl) ?_
      refine dreg_q [2] [64] rfl (load_box tab_ok rfl rfl rfl rfl) ?_
      refine dreg_w2 [14] [] rfl (call_new hR1 rfl rfl (arg_e arg_nil) (.inl rfl) rfl rfl) ?_
      refine dreg_q [3] [72] rfl (load_box tab_ok rfl rfl rfl rfl) ?_
      refine dreg_w2 [16] [] rfl (call_new hR2 rfl rfl (arg_e arg_nil) (.inl rfl) rfl rfl) ?_
      refine dreg_w [] [] rfl (step_C tab_ok (fun K hk => hk)) ?_
      refine dreg_w [] [] rfl (step_C tab_ok (fun K hk => hk)) ?_
      refine dreg_s [5, 15] [120, 96, 97] (store_row tab_ok rfl rfl rfl ⟨_, ⟨rfl, rfl, rfl⟩, rfl⟩ rfl) ?_
      refine dreg_s [6, 17] [128, 112, 113] (store_row tab_ok rfl rfl rfl ⟨_, ⟨rfl, rfl, rfl⟩, rfl⟩ rfl) ?_
      refine dreg_end (by kernel_rfl) ?_
      refine seq_n ?_
      refine wc_seq ?_
      refine wc_draw (by kernel_rfl) ?_
      refine dreg_q [5] [120, 96, 97] rfl (load_box tab_ok rfl rfl rfl rfl) ?_
      refine dreg_w2 [18] [96, 97] rfl (call_new hY1 rfl rfl (arg_A rfl rfl lp1 lp2 arg_nil) (.inr (own_plain _ _ _ _ _ _ _ _)) rfl rfl) ?_
      refine dreg_q [6] [128, 112, 113] rfl (load_box tab_ok rfl rfl rfl rfl) ?_
      refine dreg_w2 [20] [112, 113] rfl (call_new hY2 rfl rfl (arg_A rfl rfl lq1 lq2 arg_nil) (.inr (own_plain _ _ _ _ _ _ _ _)) rfl rfl) ?_
      refine dreg_w [] [] rfl (step_C tab_ok (fun K hk => hk)) ?_
      refine dreg_w [] [] rfl (step_C tab_ok (fun K hk => hk)) ?_
      refine dreg_s [7, 19] [184, 160, 161] (store_row tab_ok rfl rfl rfl ⟨_, ⟨rfl, rfl, rfl⟩, rfl⟩ rfl) ?_
      refine dreg_s [8, 21] [192, 176, 177] (store_row tab_ok rfl rfl rfl ⟨_, ⟨rfl, rfl, rfl⟩, rfl⟩ rfl) ?_
      refine dreg_end (by kernel_rfl) ?_
      refine seq_n ?_
      refine wc_seq ?_
      refine wc_region ?_
      refine reg_quiet rfl (step_C tab_ok (fun K hk => hk)) ?_
      refine reg_quiet rfl (load_box tab_ok rfl rfl rfl rfl) ?_
      refine reg_quiet rfl (step_C tab_ok (fun K hk => hk)) ?_
      refine reg_quiet rfl (load_box tab_ok rfl rfl rfl rfl) ?_
      refine reg_quiet rfl (call_r (refsame_is p1 q1 sp1 sq1) rfl rfl (arg_ownL rfl lp1 (arg_ownL rfl lq1 arg_nil)) (.inr (bool_plain _)) (fun _ => rfl)) ?_
      refine reg_quiet rfl (step_C tab_ok (fun K hk => hk)) ?_
      refine reg_skip rfl rfl (by assumption) rfl rfl ?_
      refine reg_skip rfl rfl (by assumption) rfl rfl ?_
      refine reg_skip rfl rfl (by assumption) rfl rfl ?_
      refine reg_skip rfl rfl (by assumption) rfl rfl ?_
      refine reg_skip rfl rfl (by assumption) rfl rfl ?_
      refine reg_quiet rfl (pick_F tab_ok rfl (by assumption) rfl) ?_
      refine reg_quiet rfl (step_C tab_ok (fun K hk => hk)) ?_
      refine reg_nil ?_
      refine seq_n ?_
      refine wc_seq ?_
      refine wc_region ?_
      refine reg_quiet rfl (load_box tab_ok rfl rfl rfl rfl) ?_
      refine reg_quiet rfl (load_box tab_ok rfl rfl rfl rfl) ?_
      refine reg_quiet rfl (call_r hDe rfl rfl (arg_A rfl rfl lp1 lp2 (arg_A rfl rfl lq1 lq2 arg_nil)) (.inr (errL_plain _)) (fun _ => rfl)) ?_
      refine reg_quiet rfl (step_C tab_ok (fun K hk => hk)) ?_
      refine reg_quiet rfl (step_C tab_ok (fun K hk => hk)) ?_
      refine reg_quiet rfl (step_C tab_ok (fun K hk => hk)) ?_
      refine reg_quiet rfl (step_C tab_ok (fun K hk => hk)) ?_
      refine reg_quiet rfl (step_C tab_ok (fun K hk => hk)) ?_
      refine reg_nil ?_
      refine seq_n ?_
      refine wc_seq ?_
      refine wc_seq ?_
      refine wc_region ?_
      refine reg_quiet rfl (load_box tab_ok rfl rfl rfl rfl) ?_
      refine reg_quiet rfl (load_box tab_ok rfl rfl rfl rfl) ?_
      refine reg_quiet rfl (call_r (same_is p1 p2 q1 q2 sp1 sp2 sq1 sq2) rfl rfl (arg_A rfl rfl lp1 lp2 (arg_A rfl rfl lq1 lq2 arg_nil)) (.inr (bool_plain _)) (fun _ => rfl)) ?_
      refine reg_quiet rfl (step_C tab_ok (fun K hk => hk)) ?_
      refine reg_quiet rfl (step_C tab_ok (fun K hk => hk)) ?_
      refine reg_quiet rfl (step_C tab_ok (fun K hk => hk)) ?_
      refine reg_on rfl rfl (by assumption) ?_
      refine reg_quiet rfl (load_box tab_ok rfl rfl rfl rfl) ?_
      refine reg_on rfl rfl (by assumption) ?_
      refine reg_quiet rfl (load_box tab_ok rfl rfl rfl rfl) ?_
      refine reg_on rfl rfl (by assumption) ?_
      refine reg_quiet rfl (call_r (same_is q1 q2 p1 p2 sq1 sq2 sp1 sp2) rfl rfl (arg_A rfl rfl lq1 lq2 (arg_A rfl rfl lp1 lp2 arg_nil)) (.inr (bool_plain _)) (fun _ => rfl)) ?_
      refine reg_on rfl rfl (by assumption) ?_
      refine reg_quiet rfl (step_C tab_ok (fun K hk => hk)) ?_
      refine reg_on rfl rfl (by assumption) ?_
      refine reg_quiet rfl (step_C tab_ok (fun K hk => hk)) ?_
      refine reg_quiet rfl (pick_F tab_ok rfl (by assumption) rfl) ?_
      refine reg_quiet rfl (step_C tab_ok (fun K hk => hk)) ?_
      refine reg_on rfl rfl (by assumption) ?_
      refine reg_quiet rfl (load_box tab_ok rfl rfl rfl rfl) ?_
      refine reg_on rfl rfl (by assumption) ?_
      refine reg_quiet rfl (load_box tab_ok rfl rfl rfl rfl) ?_
      refine reg_on rfl rfl (by assumption) ?_
      refine reg_quiet rfl (call_r (same_is p1 p2 p1 p2 sp1 sp2 sp1 sp2) rfl rfl (arg_A rfl rfl lp1 lp2 (arg_A rfl rfl lp1 lp2 arg_nil)) (.inr (bool_plain _)) (fun _ => rfl)) ?_
      refine reg_on rfl rfl (by assumption) ?_
      refine reg_quiet rfl (step_C tab_ok (fun K hk => hk)) ?_
      refine reg_quiet rfl (pick_F tab_ok rfl (by assumption) rfl) ?_
      refine reg_nil ?_
      refine seq_n ?_
      refine wc_false rfl (by assumption) ?_
      refine wc_skip ?_
      refine seq_n ?_
      refine wc_seq ?_
      refine wc_seq ?_
      refine wc_region ?_
      refine reg_quiet rfl (step_C tab_ok (fun K hk => hk)) ?_
      refine reg_quiet rfl (load_box tab_ok rfl rfl rfl rfl) ?_
      refine reg_quiet rfl (len_own tab_ok rfl rfl) ?_
      refine reg_quiet rfl (step_C tab_ok (fun K hk => hk)) ?_
      refine reg_quiet rfl (load_box tab_ok rfl rfl rfl rfl) ?_
      refine reg_quiet rfl (len_own tab_ok rfl rfl) ?_
      refine reg_quiet rfl (step_C tab_ok (fun K hk => hk)) ?_
      refine reg_nil ?_
      refine seq_n ?_
      refine wc_true rfl (by assumption) ?_
      refine wc_seq ?_
      refine wc_region ?_
      refine reg_quiet rfl (step_C tab_ok (fun K hk => hk)) ?_
      refine reg_quiet rfl (step_C tab_ok (fun K hk => hk)) ?_
      refine reg_quiet rfl (step_C tab_ok (fun K hk => hk)) ?_
      refine reg_on rfl rfl rfl ?_
      refine reg_quiet rfl (step_C tab_ok (fun K hk => hk)) ?_
      refine reg_on rfl rfl rfl ?_
      refine reg_quiet rfl (len_nil tab_ok rfl rfl) ?_
      refine reg_on rfl rfl rfl ?_
      refine reg_quiet rfl (step_C tab_ok (fun K hk => hk)) ?_
      refine reg_quiet rfl (pick_T tab_ok rfl rfl rfl) ?_
      refine reg_quiet rfl (step_C tab_ok (fun K hk => hk)) ?_
      refine reg_on rfl rfl rfl ?_
      refine reg_quiet rfl (call_r lives_is rfl rfl arg_nil (.inl rfl) (fun _ => rfl)) ?_
      refine reg_quiet rfl (pick_T tab_ok rfl rfl rfl) ?_
      refine reg_quiet rfl (step_C tab_ok (fun K hk => hk)) ?_
      refine reg_nil ?_
      refine seq_n ?_
      refine wc_ret ?_
      refine seq_r ?_
      exact ⟨trivial, [], .of rfl rfl rfl rfl rfl ⟨⟨_, rfl, AVLe.of_eq rfl⟩, rfl, trivial⟩ trivial⟩
theorem arraysDiffer_is (bl bl2 : Int) (zs zs2 : List (List Int)) (hb : 0 ≤ bl ∧ bl ≤ 255) (hb2 : 0 ≤ bl2 ∧ bl2 ≤ 255) (h3 : Three zs) (h4 : Three zs2) : FnIs Try.prog 6 [.d (encO bl zs), .d (encO bl2 zs2)] [] (.bool true) [] := by
  have k1 := nOf_bound hb
  have k2 := nOf_bound hb2
  have r1 := ref_is bl zs hb h3 (nOf bl).toNat (by omega)
  have r2 := ref_is bl2 zs2 hb2 h4 (nOf bl2).toNat (by omega)
  exact differLaw_core _ _ _ _ _ _ _ _ r1 r2 (runF_good (zeros_good _) _ _) (runF_good (zeros_good _) _ _) (by omega) (by omega) (by omega) (by omega) ⟨bl, zs, rfl⟩ ⟨bl2, zs2, rfl⟩
end Go.Proofs.Ytjpjchohpjbknaa

/- ArraysOrder: operations on different blocks commute; a write covers a write; flush and crash meet. -/
namespace Go.Proofs.Ytjpjchohpjbknaa
open Go.Eng
set_option maxHeartbeats 4000000
set_option maxRecDepth 4000
attribute [local irreducible] WC RegS RegD SeqQ BlkQ ScoQ RegK CutK Sat SatN FnIs LoopQ StepIs OpIs
theorem order_core (x : D) (l1' l2' : List Int) (N : Nat) (a b a1 b1 a2 b2 a12 b12 a21 b21 : Blks) (k1 i1 k2 i2 : Int) (d1 d2 : List Int) (x1 x2 y1 y2 : Res) (v1 v2 : Bool)
    (hx : ∃ a b, x = .cons (u8s a) (.cons (.arr 3 encT b) .nil))
    (hR : FnIs Try.prog 25 [.d x] [] (ownA 64 N none 65 N none) [(64, rowB false a), (65, rowB false b)])
    (hO1 : FnIs Try.prog 26 [.d (i6 N), .d (encT l1')] [] (.d (encOp ⟨k1, i1, d1⟩)) []) (hO2 : FnIs Try.prog 26 [.d (i6 N), .d (encT l2')] [] (.d (encOp ⟨k2, i2, d2⟩)) [])
    (hY : FnIs Try.prog 24 [.d (encA a b)] [] (ownA 64 N (some N) 65 N (some N)) [(64, rowB false a), (65, rowB false b)])
    (hD1 : FnIs Try.prog 20 [.d (encA a b), .d (encOp ⟨k1, i1, d1⟩)] [] (tup3 (ownA 64 N (some N) 65 N (some N)) (.d (encRes x1)) (.int .i64 0)) [(64, rowB false a1), (65, rowB false b1)])
    (hD2 : FnIs Try.prog 20 [.d (encA a1 b1), .d (encOp ⟨k2, i2, d2⟩)] [] (tup3 (ownA 64 N (some N) 65 N (some N)) (.d (encRes x2)) (.int .i64 0)) [(64, rowB false a12), (65, rowB false b12)])
    (hD3 : FnIs Try.prog 20 [.d (encA a b), .d (encOp ⟨k2, i2, d2⟩)] [] (tup3 (ownA 64 N (some N) 65 N (some N)) (.d (encRes y2)) (.int .i64 0)) [(64, rowB false a2), (65, rowB false b2)])
    (hD4 : FnIs Try.prog 20 [.d (encA a2 b2), .d (encOp ⟨k1, i1, d1⟩)] [] (tup3 (ownA 64 N (some N) 65 N (some N)) (.d (encRes y1)) (.int .i64 0)) [(64, rowB false a21), (65, rowB false b21)])
    (hF : FnIs Try.prog 28 [.d (encA a12 b12)] [] (okT N (some N) N (some N)) [(64, rowB false a12), (65, rowB false a12)])
    (hC : FnIs Try.prog 29 [.d (encA a12 a12)] [] (okT N (some N) N (some N)) [(64, rowB false a12), (65, rowB false a12)])
    (hB1 : FnIs Try.prog 21 [.d (i6 N), .d (encOp ⟨k1, i1, d1⟩)] [] (.bool v1) []) (hB2 : FnIs Try.prog 21 [.d (i6 N), .d (encOp ⟨k2, i2, d2⟩)] [] (.bool v2) [])
    (lp1 : N = a.length) (lp2 : N = b.length) (la1 : N = a1.length) (lb1 : N = b1.length) (la2 : N = a2.length) (lb2 : N = b2.length)
    (l1 : N = a12.length) (l2 : N = b12.length) (l3 : N = a21.length) (l4 : N = b21.length) (hN : N ≤ 20)
    (comm : k1 ≠ 3 → k2 ≠ 3 → i1 ≠ i2 → a12 = a21 ∧ b12 = b21 ∧ x1 = y1 ∧ x2 = y2)
    (over : k1 = 2 → k2 = 2 → i1 = i2 → v1 = false → v2 = false → a2 = a12 ∧ b2 = b12) :
    FnIs Try.prog 4 [.d x, .d (encT l1'), .d (encT l2')] [] (.bool true) [] := by
  obtain ⟨xa, xb, rfl⟩ := hx
  have s1 : a12.length ≤ 1000000 := by omega
  have s2 : b12.length ≤ 1000000 := by omega
  have s3 : a21.length ≤ 1000000 := by omega
  have s4 : b21.length ≤ 1000000 := by omega
  have s5 : a2.length ≤ 1000000 := by omega
  have s6 : b2.length ≤ 1000000 := by omega
  refine fnIs_of tab_ok Try.func4 rfl rfl rfl ?_
  refine wc_seq ?_
  refine wc_region ?_
  refine reg_new (step_C tab_ok (fun K hk => hk)) rfl ?_
  refine reg_new (step_C tab_ok (fun K hk => hk)) rfl ?_
  refine reg_new (step_C tab_ok (fun K hk => hk)) rfl ?_
  refine reg_quiet rfl (step_C tab_ok (fun K hk => hk)) ?_
  refine reg_nil ?_
  refine seq_n ?_
  refine wc_seq ?_
  refine wc_region ?_
  refine reg_quiet rfl (load_box tab_ok rfl rfl rfl rfl) ?_
  refine reg_new2 (call_new hR rfl rfl (arg_e arg_nil) (.inl rfl) rfl rfl) rfl ?_
  refine reg_new2 (call_new hY rfl rfl (arg_A rfl rfl lp1 lp2 arg_nil) (.inr (own_plain _ _ _ _ _ _ _ _)) rfl rfl) rfl ?_
  refine reg_new (step_C tab_ok (fun K hk => hk)) rfl ?_
  refine reg_store (store_row tab_ok rfl rfl rfl ⟨_, ⟨rfl, rfl, rfl⟩, rfl⟩ rfl) ?_
  refine reg_nil ?_
  refine seq_n ?_
  refine wc_seq ?_
  refine wc_region ?_
  refine reg_quiet rfl (step_C tab_ok (fun K hk => hk)) ?_
  refine reg_quiet rfl (load_box tab_ok rfl rfl rfl rfl) ?_
  refine reg_quiet rfl (len_own tab_ok rfl rfl) ?_
  refine reg_quiet rfl (step_C tab_ok (fun K hk => hk)) ?_
  refine reg_nil ?_
  refine seq_n ?_
  refine wc_seq ?_
  refine wc_draw (by kernel_rfl) ?_
  refine dreg_q [8] [] rfl (step_C tab_ok (fun K hk => hk)) ?_
  refine dreg_q [4] [72] rfl (load_box tab_ok rfl rfl rfl rfl) ?_
  refine dreg_q [33, 34] [] rfl (call_r hO1 rfl rfl (arg_e (arg_e arg_nil)) (.inl rfl) (fun _ => rfl)) ?_
  refine dreg_q [8] [] rfl (step_C tab_ok (fun K hk => hk)) ?_
  refine dreg_q [5] [80] rfl (load_box tab_ok rfl rfl rfl rfl) ?_
  refine dreg_q [36, 37] [] rfl (call_r hO2 rfl rfl (arg_e (arg_e arg_nil)) (.inl rfl) (fun _ => rfl)) ?_
  refine dreg_w [] [] rfl (step_C tab_ok (fun K hk => hk)) ?_
  refine dreg_w [] [] rfl (step_C tab_ok (fun K hk => hk)) ?_
  refine dreg_s [9, 35] [216] (store_row tab_ok rfl rfl rfl ⟨_, ⟨rfl, rfl, rfl⟩, rfl⟩ rfl) ?_
  refine dreg_s [10, 38] [224] (store_row tab_ok rfl rfl rfl ⟨_, ⟨rfl, rfl, rfl⟩, rfl⟩ rfl) ?_
  refine dreg_end (by kernel_rfl) ?_
  refine seq_n ?_
  refine wc_seq ?_
  refine wc_region ?_
  refine reg_quiet rfl (load_box tab_ok rfl rfl rfl rfl) ?_
  refine reg_quiet rfl (load_box tab_ok rfl rfl rfl rfl) ?_
  refine reg_new2 (call_new hD1 rfl rfl (arg_A rfl rfl lp1 lp2 (arg_e arg_nil)) (.inr (doT_plain _ _ _ _ _ _ _ _ _ _)) rfl rfl) rfl ?_
  refine reg_quiet rfl (step_C tab_ok (fun K hk => hk)) ?_
  refine reg_quiet rfl (step_C tab_ok (fun K hk => hk)) ?_
  refine reg_quiet rfl (step_C tab_ok (fun K hk => hk)) ?_
  refine reg_quiet rfl (step_C tab_ok (fun K hk => hk)) ?_
  refine reg_new (step_C tab_ok (fun K hk => hk)) rfl ?_
  refine reg_new (step_C tab_ok (fun K hk => hk)) rfl ?_
  refine reg_store (store_row tab_ok rfl rfl rfl ⟨_, ⟨rfl, rfl, rfl⟩, rfl⟩ rfl) ?_
  refine reg_store (store_row tab_ok rfl rfl rfl ⟨_, ⟨rfl, rfl, rfl⟩, rfl⟩ rfl) ?_
  refine reg_quiet rfl (step_C tab_ok (fun K hk => hk)) ?_
  refine reg_nil ?_
  refine seq_n ?_
  refine wc_seq ?_
  refine wc_region ?_
  refine reg_quiet rfl (load_box tab_ok rfl rfl rfl rfl) ?_
  refine reg_quiet rfl (load_box tab_ok rfl rfl rfl rfl) ?_
  refine reg_new2 (call_new hD2 rfl rfl (arg_A rfl rfl la1 lb1 (arg_e arg_nil)) (.inr (doT_plain _ _ _ _ _ _ _ _ _ _)) rfl rfl) rfl ?_
  refine reg_quiet rfl (step_C tab_ok (fun K hk => hk)) ?_
  refine reg_quiet rfl (step_C tab_ok (fun K hk => hk)) ?_
  refine reg_quiet rfl (step_C tab_ok (fun K hk => hk)) ?_
  refine reg_quiet rfl (step_C tab_ok (fun K hk => hk)) ?_
  refine reg_new (step_C tab_ok (fun K hk => hk)) rfl ?_
  refine reg_store (store_row tab_ok rfl rfl rfl ⟨_, ⟨rfl, rfl, rfl⟩, rfl⟩ rfl) ?_
  refine reg_store (store_row tab_ok rfl rfl rfl ⟨_, ⟨rfl, rfl, rfl⟩, rfl⟩ rfl) ?_
  refine reg_quiet rfl (step_C tab_ok (fun K hk => hk)) ?_
  refine reg_nil ?_
  refine seq_n ?_
  refine wc_seq ?_
  refine wc_region ?_
  refine reg_quiet rfl (load_box tab_ok rfl rfl rfl rfl) ?_
  refine reg_quiet rfl (load_box tab_ok rfl rfl rfl rfl) ?_
  refine reg_new2 (call_new hD3 rfl rfl (arg_A rfl rfl lp1 lp2 (arg_e arg_nil)) (.inr (doT_plain _ _ _ _ _ _ _ _ _ _)) rfl rfl) rfl ?_
  refine reg_quiet rfl (step_C tab_ok (fun K hk => hk)) ?_
  refine reg_quiet rfl (step_C tab_ok (fun K hk => hk)) ?_
  refine reg_quiet rfl (step_C tab_ok (fun K hk => hk)) ?_
  refine reg_quiet rfl (step_C tab_ok (fun K hk => hk)) ?_
  refine reg_new (step_C tab_ok (fun K hk => hk)) rfl ?_
  refine reg_new (step_C tab_ok (fun K hk => hk)) rfl ?_
  refine reg_store (store_row tab_ok rfl rfl rfl ⟨_, ⟨rfl, rfl, rfl⟩, rfl⟩ rfl) ?_
  refine reg_store (store_row tab_ok rfl rfl rfl ⟨_, ⟨rfl, rfl, rfl⟩, rfl⟩ rfl) ?_
  refine reg_quiet rfl (step_C tab_ok (fun K hk => hk)) ?_
  refine reg_nil ?_
  refine seq_n ?_
  refine wc_seq ?_
  refine wc_region ?_
  refine reg_quiet rfl (load_box tab_ok rfl rfl rfl rfl) ?_
  refine reg_quiet rfl (load_box tab_ok rfl rfl rfl rfl) ?_
  refine reg_new2 (call_new hD4 rfl rfl (arg_A rfl rfl la2 lb2 (arg_e arg_nil)) (.inr (doT_plain _ _ _ _ _ _ _ _ _ _)) rfl rfl) rfl ?_
  refine reg_quiet rfl (step_C tab_ok (fun K hk => hk)) ?_
  refine reg_quiet rfl (step_C tab_ok (fun K hk => hk)) ?_
  refine reg_quiet rfl (step_C tab_ok (fun K hk => hk)) ?_
  refine reg_quiet rfl (step_C tab_ok (fun K hk => hk)) ?_
  refine reg_new (step_C tab_ok (fun K hk => hk)) rfl ?_
  refine reg_store (store_row tab_ok rfl rfl rfl ⟨_, ⟨rfl, rfl, rfl⟩, rfl⟩ rfl) ?_
  refine reg_store (store_row tab_ok rfl rfl rfl ⟨_, ⟨rfl, rfl, rfl⟩, rfl⟩ rfl) ?_
  refine reg_quiet rfl (step_C tab_ok (fun K hk => hk)) ?_
  refine reg_nil ?_
  refine seq_n ?_
  refine wc_seq ?_
  refine wc_seq ?_
  refine wc_region ?_
  refine reg_quiet rfl (step_C tab_ok (fun K hk => hk)) ?_
  refine reg_quiet rfl (step_C tab_ok (fun K hk => hk)) ?_
  refine reg_quiet rfl (add_int tab_ok rfl rfl (wrap_i64 (by omega) (by omega))) ?_
  refine reg_quiet rfl (step_C tab_ok (fun K hk => hk)) ?_
  refine reg_quiet rfl (add_int tab_ok rfl rfl (wrap_i64 (by omega) (by omega))) ?_
  refine reg_quiet rfl (step_C tab_ok (fun K hk => hk)) ?_
  refine reg_quiet rfl (add_int tab_ok rfl rfl (wrap_i64 (by omega) (by omega))) ?_
  refine reg_quiet rfl (step_C tab_ok (fun K hk => hk)) ?_
  refine reg_nil ?_
  refine seq_n ?_
  refine wc_false rfl rfl ?_
  refine wc_skip ?_
  refine seq_n ?_
  refine wc_mid (fun w : Bool => ⟨(21, .bool w) :: [(8, .int .i64 N), (9, .ptr 64 []), (10, .ptr 65 []), (7, .ptr 66 []), (11, .ptr 67 []), (16, .ptr 68 []), (12, .ptr 69 []), (14, .ptr 70 []), (17, .ptr 77 []), (19, .ptr 78 [])], [(64, some (.box 47 (.d (encOp ⟨k1, i1, d1⟩)))), (65, some (.box 47 (.d (encOp ⟨k2, i2, d2⟩)))), (66, some (.box 30 (ownA 71 N (some N) 72 N (some N)))), (67, some (.box 30 (ownA 73 N (some N) 74 N (some N)))), (68, some (.box 30 (ownA 75 N (some N) 76 N (some N)))), (69, some (.box 49 (.d (encRes x1)))), (70, some (.box 49 (.d (encRes x2)))), (77, some (.box 49 (.d (encRes y2)))), (78, some (.box 49 (.d (encRes y1)))), (71, some (rowB false a)), (72, some (rowB false b)), (73, some (rowB false a12)), (74, some (rowB false b12)), (75, some (rowB false a21)), (76, some (rowB false b21))], 80, Try.f4.ntmps, 64⟩) (fun w => w = (decide (k1 = 3) || decide (k2 = 3))) ?_ ?_
  · by_cases h1 : k1 = 3
    · have e1 : decide (k1 = 3) = true := decide_eq_true h1
      refine wc_region ?_
      refine reg_quiet rfl (step_C tab_ok (fun K hk => hk)) ?_
      refine reg_quiet rfl (load_box tab_ok rfl rfl ⟨_, rfl, rfl⟩ rfl) ?_
      refine reg_quiet rfl (step_C tab_ok (fun K hk => hk)) ?_
      refine reg_quiet rfl (step_C tab_ok (fun K hk => hk)) ?_
      refine reg_skip rfl rfl (by assumption) rfl rfl ?_
      refine reg_skip rfl rfl (by assumption) rfl rfl ?_
      refine reg_skip rfl rfl (by assumption) rfl rfl ?_
      refine reg_quiet rfl (pick_T tab_ok rfl (by assumption) rfl) ?_
      refine reg_quiet rfl (step_C tab_ok (fun K hk => hk)) ?_
      refine reg_nil ?_
      refine mid_n true [(64, some 216), (65, some 224), (66, some 120), (67, some 304), (68, some 488), (69, some 312), (70, some 400), (77, some 496), (78, some 584), (71, some 112), (72, some 113), (73, some 360), (74, some 361), (75, some 544), (76, some 545)] (by rw [e1]; rfl) ?_
      exact .of rfl rfl rfl rfl rfl ⟨⟨_, rfl, .refl _⟩, rfl, ⟨_, rfl, .refl _⟩, rfl, ⟨_, rfl, .refl _⟩, rfl, ⟨_, rfl, .refl _⟩, rfl, ⟨_, rfl, .refl _⟩, rfl, ⟨_, rfl, .refl _⟩, rfl, ⟨_, rfl, .refl _⟩, rfl, ⟨_, rfl, .refl _⟩, rfl, ⟨_, rfl, .refl _⟩, rfl, ⟨_, rfl, .refl _⟩, rfl, ⟨_, rfl, .refl _⟩, rfl, trivial⟩ ⟨⟨rfl, rfl, _, rfl, .refl _⟩, ⟨rfl, rfl, _, rfl, .refl _⟩, ⟨rfl, rfl, _, rfl, .refl _⟩, ⟨rfl, rfl, _, rfl, .refl _⟩, ⟨rfl, rfl, _, rfl, .refl _⟩, ⟨rfl, rfl, _, rfl, .refl _⟩, ⟨rfl, rfl, _, rfl, .refl _⟩, ⟨rfl, rfl, _, rfl, .refl _⟩, ⟨rfl, rfl, _, rfl, .refl _⟩, ⟨rfl, rfl, _, rfl, .refl _⟩, ⟨rfl, rfl, _, rfl, .refl _⟩, ⟨rfl, rfl, _, rfl, .refl _⟩, ⟨rfl, rfl, _, rfl, .refl _⟩, ⟨rfl, rfl, _, rfl, .refl _⟩, ⟨rfl, rfl, _, rfl, .refl _⟩, trivial⟩
    · have e1 : decide (k1 = 3) = false := decide_eq_false h1
      refine wc_region ?_
      refine reg_quiet rfl (step_C tab_ok (fun K hk => hk)) ?_
      refine reg_quiet rfl (load_box tab_ok rfl rfl ⟨_, rfl, rfl⟩ rfl) ?_
      refine reg_quiet rfl (step_C tab_ok (fun K hk => hk)) ?_
      refine reg_quiet rfl (step_C tab_ok (fun K hk => hk)) ?_
      refine reg_on rfl rfl (by assumption) ?_
      refine reg_quiet rfl (step_C tab_ok (fun K hk => hk)) ?_
      refine reg_on rfl rfl (by assumption) ?_
      refine reg_quiet rfl (load_box tab_ok rfl rfl ⟨_, rfl, rfl⟩ rfl) ?_
      refine reg_on rfl rfl (by assumption) ?_
      refine reg_quiet rfl (step_C tab_ok (fun K hk => hk)) ?_
      refine reg_quiet rfl (pick_F tab_ok rfl (by assumption) rfl) ?_
      refine reg_quiet rfl (step_C tab_ok (fun K hk => hk)) ?_
      refine reg_nil ?_
      refine mid_n (decide (k2 = 3)) [(64, some 216), (65, some 224), (66, some 120), (67, some 304), (68, some 488), (69, some 312), (70, some 400), (77, some 496), (78, some 584), (71, some 112), (72, some 113), (73, some 360), (74, some 361), (75, some 544), (76, some 545)] (by rw [e1]; rfl) ?_
      exact .of rfl rfl rfl rfl rfl ⟨⟨_, rfl, .refl _⟩, rfl, ⟨_, rfl, .refl _⟩, rfl, ⟨_, rfl, .refl _⟩, rfl, ⟨_, rfl, .refl _⟩, rfl, ⟨_, rfl, .refl _⟩, rfl, ⟨_, rfl, .refl _⟩, rfl, ⟨_, rfl, .refl _⟩, rfl, ⟨_, rfl, .refl _⟩, rfl, ⟨_, rfl, .refl _⟩, rfl, ⟨_, rfl, .refl _⟩, rfl, ⟨_, rfl, .refl _⟩, rfl, trivial⟩ ⟨⟨rfl, rfl, _, rfl, .refl _⟩, ⟨rfl, rfl, _, rfl, .refl _⟩, ⟨rfl, rfl, _, rfl, .refl _⟩, ⟨rfl, rfl, _, rfl, .refl _⟩, ⟨rfl, rfl, _, rfl, .refl _⟩, ⟨rfl, rfl, _, rfl, .refl _⟩, ⟨rfl, rfl, _, rfl, .refl _⟩, ⟨rfl, rfl, _, rfl, .refl _⟩, ⟨rfl, rfl, _, rfl, .refl _⟩, ⟨rfl, rfl, _, rfl, .refl _⟩, ⟨rfl, rfl, _, rfl, .refl _⟩, ⟨rfl, rfl, _, rfl, .refl _⟩, ⟨rfl, rfl, _, rfl, .refl _⟩, ⟨rfl, rfl, _, rfl, .refl _⟩, ⟨rfl, rfl, _, rfl, .refl _⟩, trivial⟩
  intro w hw
  refine wc_of ?_
  refine wc_mid (fun _ : Unit => ⟨[(8, .int .i64 N), (9, .ptr 64 []), (10, .ptr 65 []), (7, .ptr 66 []), (11, .ptr 67 []), (16, .ptr 68 []), (12, .ptr 69 []), (14, .ptr 70 []), (17, .ptr 77 []), (19, .ptr 78 [])], [(64, some (.box 47 (.d (encOp ⟨k1, i1, d1⟩)))), (65, some (.box 47 (.d (encOp ⟨k2, i2, d2⟩)))), (66, some (.box 30 (ownA 71 N (some N) 72 N (some N)))), (67, some (.box 30 (ownA 73 N (some N) 74 N (some N)))), (68, some (.box 30 (ownA 75 N (some N) 76 N (some N)))), (69, some (.box 49 (.d (encRes x1)))), (70, some (.box 49 (.d (encRes x2)))), (77, some (.box 49 (.d (encRes y2)))), (78, some (.box 49 (.d (encRes y1)))), (71, some (rowB false a)), (72, some (rowB false b)), (73, some (rowB false a12)), (74, some (rowB false b12)), (75, some (rowB false a21)), (76, some (rowB false b21))], 80, Try.f4.ntmps, 64⟩) (fun _ => True) ?_ ?_
  · by_cases hi : i1 = i2
    · have e1 : (!decide (i1 = i2)) = false := by rw [hi]; simp
      refine wc_seq ?_
      refine wc_region ?_
      refine reg_quiet rfl (step_C tab_ok (fun K hk => hk)) ?_
      refine reg_quiet rfl (load_box tab_ok rfl rfl ⟨_, rfl, rfl⟩ rfl) ?_
      refine reg_quiet rfl (step_C tab_ok (fun K hk => hk)) ?_
      refine reg_quiet rfl (load_box tab_ok rfl rfl ⟨_, rfl, rfl⟩ rfl) ?_
      refine reg_quiet rfl (step_C tab_ok (fun K hk => hk)) ?_
      refine reg_quiet rfl (step_C tab_ok (fun K hk => hk)) ?_
      refine reg_skip rfl rfl (by assumption) rfl rfl ?_
      refine reg_skip rfl rfl (by assumption) rfl rfl ?_
      refine reg_quiet rfl (pick_F tab_ok rfl (by assumption) rfl) ?_
      refine reg_quiet rfl (step_C tab_ok (fun K hk => hk)) ?_
      refine reg_skip rfl rfl rfl rfl rfl ?_
      refine reg_skip rfl rfl rfl rfl rfl ?_
      refine reg_skip rfl rfl rfl rfl rfl ?_
      refine reg_skip rfl rfl rfl rfl rfl ?_
      refine reg_skip rfl rfl rfl rfl rfl ?_
      refine reg_skipU rfl rfl rfl rfl ?_
      refine reg_skipU rfl rfl rfl rfl ?_
      refine reg_skipU rfl rfl rfl rfl ?_
      refine reg_skip rfl rfl rfl rfl rfl ?_
      refine reg_skip rfl rfl rfl rfl rfl ?_
      refine reg_skipU rfl rfl rfl rfl ?_
      refine reg_skipU rfl rfl rfl rfl ?_
      refine reg_skipU rfl rfl rfl rfl ?_
      refine reg_skip rfl rfl rfl rfl rfl ?_
      refine reg_quiet rfl (pick_F tab_ok rfl rfl rfl) ?_
      refine reg_nil ?_
      refine seq_n ?_
      refine wc_false rfl rfl ?_
      refine wc_skip ?_
      refine mid_n () [(64, some 64), (65, some 65), (66, some 66), (67, some 67), (68, some 68), (69, some 69), (70, some 70), (77, some 77), (78, some 78), (71, some 71), (72, some 72), (73, some 73), (74, some 74), (75, some 75), (76, some 76)] trivial ?_
      exact .of rfl rfl rfl rfl rfl ⟨⟨_, rfl, .refl _⟩, rfl, ⟨_, rfl, .refl _⟩, rfl, ⟨_, rfl, .refl _⟩, rfl, ⟨_, rfl, .refl _⟩, rfl, ⟨_, rfl, .refl _⟩, rfl, ⟨_, rfl, .refl _⟩, rfl, ⟨_, rfl, .refl _⟩, rfl, ⟨_, rfl, .refl _⟩, rfl, ⟨_, rfl, .refl _⟩, rfl, ⟨_, rfl, .refl _⟩, rfl, trivial⟩ ⟨⟨rfl, rfl, _, rfl, .refl _⟩, ⟨rfl, rfl, _, rfl, .refl _⟩, ⟨rfl, rfl, _, rfl, .refl _⟩, ⟨rfl, rfl, _, rfl, .refl _⟩, ⟨rfl, rfl, _, rfl, .refl _⟩, ⟨rfl, rfl, _, rfl, .refl _⟩, ⟨rfl, rfl, _, rfl, .refl _⟩, ⟨rfl, rfl, _, rfl, .refl _⟩, ⟨rfl, rfl, _, rfl, .refl _⟩, ⟨rfl, rfl, _, rfl, .refl _⟩, ⟨rfl, rfl, _, rfl, .refl _⟩, ⟨rfl, rfl, _, rfl, .refl _⟩, ⟨rfl, rfl, _, rfl, .refl _⟩, ⟨rfl, rfl, _, rfl, .refl _⟩, ⟨rfl, rfl, _, rfl, .refl _⟩, trivial⟩
    · have e1 : (!decide (i1 = i2)) = true := by rw [decide_eq_false hi]; rfl
      cases w with
      | true =>
        refine wc_seq ?_
        refine wc_region ?_
        refine reg_quiet rfl (step_C tab_ok (fun K hk => hk)) ?_
        refine reg_quiet rfl (load_box tab_ok rfl rfl ⟨_, rfl, rfl⟩ rfl) ?_
        refine reg_quiet rfl (step_C tab_ok (fun K hk => hk)) ?_
        refine reg_quiet rfl (load_box tab_ok rfl rfl ⟨_, rfl, rfl⟩ rfl) ?_
        refine reg_quiet rfl (step_C tab_ok (fun K hk => hk)) ?_
        refine reg_quiet rfl (step_C tab_ok (fun K hk => hk)) ?_
        refine reg_on rfl rfl (by assumption) ?_
        refine reg_quiet rfl (step_C tab_ok (fun K hk => hk)) ?_
        refine reg_on rfl rfl (by assumption) ?_
        refine reg_quiet rfl (step_C tab_ok (fun K hk => hk)) ?_
        refine reg_quiet rfl (pick_T tab_ok rfl (by assumption) rfl) ?_
        refine reg_quiet rfl (step_C tab_ok (fun K hk => hk)) ?_
        refine reg_skip rfl rfl rfl rfl rfl ?_
        refine reg_skip rfl rfl rfl rfl rfl ?_
        refine reg_skip rfl rfl rfl rfl rfl ?_
        refine reg_skip rfl rfl rfl rfl rfl ?_
        refine reg_skip rfl rfl rfl rfl rfl ?_
        refine reg_skipU rfl rfl rfl rfl ?_
        refine reg_skipU rfl rfl rfl rfl ?_
        refine reg_skipU rfl rfl rfl rfl ?_
        refine reg_skip rfl rfl rfl rfl rfl ?_
        refine reg_skip rfl rfl rfl rfl rfl ?_
        refine reg_skipU rfl rfl rfl rfl ?_
        refine reg_skipU rfl rfl rfl rfl ?_
        refine reg_skipU rfl rfl rfl rfl ?_
        refine reg_skip rfl rfl rfl rfl rfl ?_
        refine reg_quiet rfl (pick_F tab_ok rfl rfl rfl) ?_
        refine reg_nil ?_
        refine seq_n ?_
        refine wc_false rfl rfl ?_
        refine wc_skip ?_
        refine mid_n () [(64, some 64), (65, some 65), (66, some 66), (67, some 67), (68, some 68), (69, some 69), (70, some 70), (77, some 77), (78, some 78), (71, some 71), (72, some 72), (73, some 73), (74, some 74), (75, some 75), (76, some 76)] trivial ?_
        exact .of rfl rfl rfl rfl rfl ⟨⟨_, rfl, .refl _⟩, rfl, ⟨_, rfl, .refl _⟩, rfl, ⟨_, rfl, .refl _⟩, rfl, ⟨_, rfl, .refl _⟩, rfl, ⟨_, rfl, .refl _⟩, rfl, ⟨_, rfl, .refl _⟩, rfl, ⟨_, rfl, .refl _⟩, rfl, ⟨_, rfl, .refl _⟩, rfl, ⟨_, rfl, .refl _⟩, rfl, ⟨_, rfl, .refl _⟩, rfl, trivial⟩ ⟨⟨rfl, rfl, _, rfl, .refl _⟩, ⟨rfl, rfl, _, rfl, .refl _⟩, ⟨rfl, rfl, _, rfl, .refl _⟩, ⟨rfl, rfl, _, rfl, .refl _⟩, ⟨rfl, rfl, _, rfl, .refl _⟩, ⟨rfl, rfl, _, rfl, .refl _⟩, ⟨rfl, rfl, _, rfl, .refl _⟩, ⟨rfl, rfl, _, rfl, .refl _⟩, ⟨rfl, rfl, _, rfl, .refl _⟩, ⟨rfl, rfl, _, rfl, .refl _⟩, ⟨rfl, rfl, _, rfl, .refl _⟩, ⟨rfl, rfl, _, rfl, .refl _⟩, ⟨rfl, rfl, _, rfl, .refl _⟩, ⟨rfl, rfl, _, rfl, .refl _⟩, ⟨rfl, rfl, _, rfl, .refl _⟩, trivial⟩
      | false =>
        have hk := (Bool.or_eq_false_iff.mp hw.symm)
        obtain ⟨rfl, rfl, rfl, rfl⟩ := comm (of_decide_eq_false hk.1) (of_decide_eq_false hk.2) hi
        have f3 : (!(decide (a12 = a12) && decide (b12 = b12))) = false := by simp
        have f1 : (!decide (x1 = x1)) = false := by simp
        have f2 : (!decide (x2 = x2)) = false := by simp
        refine wc_seq ?_
        refine wc_region ?_
        refine reg_quiet rfl (step_C tab_ok (fun K hk => hk)) ?_
        refine reg_quiet rfl (load_box tab_ok rfl rfl ⟨_, rfl, rfl⟩ rfl) ?_
        refine reg_quiet rfl (step_C tab_ok (fun K hk => hk)) ?_
        refine reg_quiet rfl (load_box tab_ok rfl rfl ⟨_, rfl, rfl⟩ rfl) ?_
        refine reg_quiet rfl (step_C tab_ok (fun K hk => hk)) ?_
        refine reg_quiet rfl (step_C tab_ok (fun K hk => hk)) ?_
        refine reg_on rfl rfl (by assumption) ?_
        refine reg_quiet rfl (step_C tab_ok (fun K hk => hk)) ?_
        refine reg_on rfl rfl (by assumption) ?_
        refine reg_quiet rfl (step_C tab_ok (fun K hk => hk)) ?_
        refine reg_quiet rfl (pick_T tab_ok rfl (by assumption) rfl) ?_
        refine reg_quiet rfl (step_C tab_ok (fun K hk => hk)) ?_
        refine reg_on rfl rfl rfl ?_
        refine reg_quiet rfl (load_box tab_ok rfl rfl rfl rfl) ?_
        refine reg_on rfl rfl rfl ?_
        refine reg_quiet rfl (load_box tab_ok rfl rfl rfl rfl) ?_
        refine reg_on rfl rfl rfl ?_
        refine reg_quiet rfl (call_r (same_is _ _ _ _ s1 s2 s3 s4) rfl rfl (arg_A rfl rfl l1 l2 (arg_A rfl rfl l3 l4 arg_nil)) (.inr (bool_plain _)) (fun _ => rfl)) ?_
        refine reg_on rfl rfl rfl ?_
        refine reg_quiet rfl (step_C tab_ok (fun K hk => hk)) ?_
        refine reg_on rfl rfl rfl ?_
        refine reg_quiet rfl (step_C tab_ok (fun K hk => hk)) ?_
        refine reg_on rfl rfl (by assumption) ?_
        refine reg_quiet rfl (load_box tab_ok rfl rfl rfl rfl) ?_
        refine reg_on rfl rfl (by assumption) ?_
        refine reg_quiet rfl (load_box tab_ok rfl rfl rfl rfl) ?_
        refine reg_on rfl rfl (by assumption) ?_
        refine reg_quiet rfl (neq_data rfl rfl rfl rfl (by kernel_rfl) (by decide) (res_eq _ _)) ?_
        refine reg_on rfl rfl rfl ?_
        refine reg_quiet rfl (pick_F tab_ok rfl (by assumption) rfl) ?_
        refine reg_on rfl rfl rfl ?_
        refine reg_quiet rfl (step_C tab_ok (fun K hk => hk)) ?_
        refine reg_on rfl rfl (by assumption) ?_
        refine reg_quiet rfl (load_box tab_ok rfl rfl rfl rfl) ?_
        refine reg_on rfl rfl (by assumption) ?_
        refine reg_quiet rfl (load_box tab_ok rfl rfl rfl rfl) ?_
        refine reg_on rfl rfl (by assumption) ?_
        refine reg_quiet rfl (neq_data rfl rfl rfl rfl (by kernel_rfl) (by decide) (res_eq _ _)) ?_
        refine reg_on rfl rfl rfl ?_
        refine reg_quiet rfl (pick_F tab_ok rfl (by assumption) rfl) ?_
        refine reg_quiet rfl (pick_T tab_ok rfl rfl rfl) ?_
        refine reg_nil ?_
        refine seq_n ?_
        refine wc_false rfl (by assumption) ?_
        refine wc_skip ?_
        refine mid_n () [(64, some 64), (65, some 65), (66, some 66), (67, some 67), (68, some 68), (69, some 69), (70, some 70), (77, some 77), (78, some 78), (71, some 71), (72, some 72), (73, some 73), (74, some 74), (75, some 75), (76, some 76)] trivial ?_
        exact .of rfl rfl rfl rfl rfl ⟨⟨_, rfl, .refl _⟩, rfl, ⟨_, rfl, .refl _⟩, rfl, ⟨_, rfl, .refl _⟩, rfl, ⟨_, rfl, .refl _⟩, rfl, ⟨_, rfl, .refl _⟩, rfl, ⟨_, rfl, .refl _⟩, rfl, ⟨_, rfl, .refl _⟩, rfl, ⟨_, rfl, .refl _⟩, rfl, ⟨_, rfl, .refl _⟩, rfl, ⟨_, rfl, .refl _⟩, rfl, trivial⟩ ⟨⟨rfl, rfl, _, rfl, .refl _⟩, ⟨rfl, rfl, _, rfl, .refl _⟩, ⟨rfl, rfl, _, rfl, .refl _⟩, ⟨rfl, rfl, _, rfl, .refl _⟩, ⟨rfl, rfl, _, rfl, .refl _⟩, ⟨rfl, rfl, _, rfl, .refl _⟩, ⟨rfl, rfl, _, rfl, .refl _⟩, ⟨rfl, rfl, _, rfl, .refl _⟩, ⟨rfl, rfl, _, rfl, .refl _⟩, ⟨rfl, rfl, _, rfl, .refl _⟩, ⟨rfl, rfl, _, rfl, .refl _⟩, ⟨rfl, rfl, _, rfl, .refl _⟩, ⟨rfl, rfl, _, rfl, .refl _⟩, ⟨rfl, rfl, _, rfl, .refl _⟩, ⟨rfl, rfl, _, rfl, .refl _⟩, trivial⟩
  intro _ _
  refine wc_of ?_
  clear hw w
  refine wc_mid (fun _ : Unit => ⟨[(11, .ptr 67 [])], [(67, some (.box 30 (ownA 73 N (some N) 74 N (some N)))), (73, some (rowB false a12)), (74, some (rowB false b12))], 80, Try.f4.ntmps, 64⟩) (fun _ => True) ?_ ?_
  · by_cases h1 : k1 = 2
    · have e1 : decide (k1 = 2) = true := decide_eq_true h1
      by_cases h2 : k2 = 2
      · have e2 : decide (k2 = 2) = true := decide_eq_true h2
        by_cases hi : i1 = i2
        · have e3 : decide (i1 = i2) = true := decide_eq_true hi
          cases v1 with
          | true =>
            refine wc_seq ?_
            refine wc_region ?_
            refine reg_quiet rfl (step_C tab_ok (fun K hk => hk)) ?_
            refine reg_quiet rfl (load_box tab_ok rfl rfl ⟨_, rfl, rfl⟩ rfl) ?_
            refine reg_quiet rfl (step_C tab_ok (fun K hk => hk)) ?_
            refine reg_quiet rfl (step_C tab_ok (fun K hk => hk)) ?_
            refine reg_on rfl rfl (by assumption) ?_
            refine reg_quiet rfl (step_C tab_ok (fun K hk => hk)) ?_
            refine reg_on rfl rfl (by assumption) ?_
            refine reg_quiet rfl (load_box tab_ok rfl rfl ⟨_, rfl, rfl⟩ rfl) ?_
            refine reg_on rfl rfl (by assumption) ?_
            refine reg_quiet rfl (step_C tab_ok (fun K hk => hk)) ?_
            refine reg_quiet rfl (pick_T tab_ok rfl (by assumption) rfl) ?_
            refine reg_quiet rfl (step_C tab_ok (fun K hk => hk)) ?_
            refine reg_on rfl rfl (by assumption) ?_
            refine reg_quiet rfl (step_C tab_ok (fun K hk => hk)) ?_
            refine reg_on rfl rfl (by assumption) ?_
            refine reg_quiet rfl (load_box tab_ok rfl rfl ⟨_, rfl, rfl⟩ rfl) ?_
            refine reg_on rfl rfl (by assumption) ?_
            refine reg_quiet rfl (step_C tab_ok (fun K hk => hk)) ?_
            refine reg_on rfl rfl (by assumption) ?_
            refine reg_quiet rfl (load_box tab_ok rfl rfl ⟨_, rfl, rfl⟩ rfl) ?_
            refine reg_on rfl rfl (by assumption) ?_
            refine reg_quiet rfl (step_C tab_ok (fun K hk => hk)) ?_
            refine reg_quiet rfl (pick_T tab_ok rfl (by assumption) rfl) ?_
            refine reg_quiet rfl (step_C tab_ok (fun K hk => hk)) ?_
            refine reg_on rfl rfl (by assumption) ?_
            refine reg_quiet rfl (step_C tab_ok (fun K hk => hk)) ?_
            refine reg_on rfl rfl (by assumption) ?_
            refine reg_quiet rfl (load_box tab_ok rfl rfl rfl rfl) ?_
            refine reg_on rfl rfl (by assumption) ?_
            refine reg_quiet rfl (call_r hB1 rfl rfl (arg_e (arg_e arg_nil)) (.inl rfl) (fun _ => rfl)) ?_
            refine reg_on rfl rfl (by assumption) ?_
            refine reg_quiet rfl (step_C tab_ok (fun K hk => hk)) ?_
            refine reg_quiet rfl (pick_T tab_ok rfl (by assumption) rfl) ?_
            refine reg_quiet rfl (step_C tab_ok (fun K hk => hk)) ?_
            refine reg_skip rfl rfl rfl rfl rfl ?_
            refine reg_skip rfl rfl rfl rfl rfl ?_
            refine reg_skip rfl rfl rfl rfl rfl ?_
            refine reg_skip rfl rfl rfl rfl rfl ?_
            refine reg_quiet rfl (pick_F tab_ok rfl rfl rfl) ?_
            refine reg_nil ?_
            refine seq_n ?_
            refine wc_false rfl rfl ?_
            refine wc_skip ?_
            refine mid_n () [(67, some 67), (73, some 73), (74, some 74)] trivial ?_
            exact .of rfl rfl rfl rfl rfl ⟨⟨_, rfl, .refl _⟩, rfl, trivial⟩ ⟨⟨rfl, rfl, _, rfl, .refl _⟩, ⟨rfl, rfl, _, rfl, .refl _⟩, ⟨rfl, rfl, _, rfl, .refl _⟩, trivial⟩
          | false =>
            cases v2 with
            | true =>
              refine wc_seq ?_
              refine wc_region ?_
              refine reg_quiet rfl (step_C tab_ok (fun K hk => hk)) ?_
              refine reg_quiet rfl (load_box tab_ok rfl rfl ⟨_, rfl, rfl⟩ rfl) ?_
              refine reg_quiet rfl (step_C tab_ok (fun K hk => hk)) ?_
              refine reg_quiet rfl (step_C tab_ok (fun K hk => hk)) ?_
              refine reg_on rfl rfl (by assumption) ?_
              refine reg_quiet rfl (step_C tab_ok (fun K hk => hk)) ?_
              refine reg_on rfl rfl (by assumption) ?_
              refine reg_quiet rfl (load_box tab_ok rfl rfl ⟨_, rfl, rfl⟩ rfl) ?_
              refine reg_on rfl rfl (by assumption) ?_
              refine reg_quiet rfl (step_C tab_ok (fun K hk => hk)) ?_
              refine reg_quiet rfl (pick_T tab_ok rfl (by assumption) rfl) ?_
              refine reg_quiet rfl (step_C tab_ok (fun K hk => hk)) ?_
              refine reg_on rfl rfl (by assumption) ?_
              refine reg_quiet rfl (step_C tab_ok (fun K hk => hk)) ?_
              refine reg_on rfl rfl (by assumption) ?_
              refine reg_quiet rfl (load_box tab_ok rfl rfl ⟨_, rfl, rfl⟩ rfl) ?_
              refine reg_on rfl rfl (by assumption) ?_
              refine reg_quiet rfl (step_C tab_ok (fun K hk => hk)) ?_
              refine reg_on rfl rfl (by assumption) ?_
              refine reg_quiet rfl (load_box tab_ok rfl rfl ⟨_, rfl, rfl⟩ rfl) ?_
              refine reg_on rfl rfl (by assumption) ?_
              refine reg_quiet rfl (step_C tab_ok (fun K hk => hk)) ?_
              refine reg_quiet rfl (pick_T tab_ok rfl (by assumption) rfl) ?_
              refine reg_quiet rfl (step_C tab_ok (fun K hk => hk)) ?_
              refine reg_on rfl rfl (by assumption) ?_
              refine reg_quiet rfl (step_C tab_ok (fun K hk => hk)) ?_
              refine reg_on rfl rfl (by assumption) ?_
              refine reg_quiet rfl (load_box tab_ok rfl rfl rfl rfl) ?_
              refine reg_on rfl rfl (by assumption) ?_
              refine reg_quiet rfl (call_r hB1 rfl rfl (arg_e (arg_e arg_nil)) (.inl rfl) (fun _ => rfl)) ?_
              refine reg_on rfl rfl (by assumption) ?_
              refine reg_quiet rfl (step_C tab_ok (fun K hk => hk)) ?_
              refine reg_quiet rfl (pick_T tab_ok rfl (by assumption) rfl) ?_
              refine reg_quiet rfl (step_C tab_ok (fun K hk => hk)) ?_
              refine reg_on rfl rfl rfl ?_
              refine reg_quiet rfl (step_C tab_ok (fun K hk => hk)) ?_
              refine reg_on rfl rfl rfl ?_
              refine reg_quiet rfl (load_box tab_ok rfl rfl rfl rfl) ?_
              refine reg_on rfl rfl rfl ?_
              refine reg_quiet rfl (call_r hB2 rfl rfl (arg_e (arg_e arg_nil)) (.inl rfl) (fun _ => rfl)) ?_
              refine reg_on rfl rfl rfl ?_
              refine reg_quiet rfl (step_C tab_ok (fun K hk => hk)) ?_
              refine reg_quiet rfl (pick_T tab_ok rfl rfl rfl) ?_
              refine reg_nil ?_
              refine seq_n ?_
              refine wc_false rfl rfl ?_
              refine wc_skip ?_
              refine mid_n () [(67, some 67), (73, some 73), (74, some 74)] trivial ?_
              exact .of rfl rfl rfl rfl rfl ⟨⟨_, rfl, .refl _⟩, rfl, trivial⟩ ⟨⟨rfl, rfl, _, rfl, .refl _⟩, ⟨rfl, rfl, _, rfl, .refl _⟩, ⟨rfl, rfl, _, rfl, .refl _⟩, trivial⟩
            | false =>
              obtain ⟨rfl, rfl⟩ := over h1 h2 hi rfl rfl
              have f3 : (!(decide (a2 = a2) && decide (b2 = b2))) = false := by simp
              refine wc_seq ?_
              refine wc_region ?_
              refine reg_quiet rfl (step_C tab_ok (fun K hk => hk)) ?_
              refine reg_quiet rfl (load_box tab_ok rfl rfl ⟨_, rfl, rfl⟩ rfl) ?_
              refine reg_quiet rfl (step_C tab_ok (fun K hk => hk)) ?_
              refine reg_quiet rfl (step_C tab_ok (fun K hk => hk)) ?_
              refine reg_on rfl rfl (by assumption) ?_
              refine reg_quiet rfl (step_C tab_ok (fun K hk => hk)) ?_
              refine reg_on rfl rfl (by assumption) ?_
              refine reg_quiet rfl (load_box tab_ok rfl rfl ⟨_, rfl, rfl⟩ rfl) ?_
              refine reg_on rfl rfl (by assumption) ?_
              refine reg_quiet rfl (step_C tab_ok (fun K hk => hk)) ?_
              refine reg_quiet rfl (pick_T tab_ok rfl (by assumption) rfl) ?_
              refine reg_quiet rfl (step_C tab_ok (fun K hk => hk)) ?_
              refine reg_on rfl rfl (by assumption) ?_
              refine reg_quiet rfl (step_C tab_ok (fun K hk => hk)) ?_
              refine reg_on rfl rfl (by assumption) ?_
              refine reg_quiet rfl (load_box tab_ok rfl rfl ⟨_, rfl, rfl⟩ rfl) ?_
              refine reg_on rfl rfl (by assumption) ?_
              refine reg_quiet rfl (step_C tab_ok (fun K hk => hk)) ?_
              refine reg_on rfl rfl (by assumption) ?_
              refine reg_quiet rfl (load_box tab_ok rfl rfl ⟨_, rfl, rfl⟩ rfl) ?_
              refine reg_on rfl rfl (by assumption) ?_
              refine reg_quiet rfl (step_C tab_ok (fun K hk => hk)) ?_
              refine reg_quiet rfl (pick_T tab_ok rfl (by assumption) rfl) ?_
              refine reg_quiet rfl (step_C tab_ok (fun K hk => hk)) ?_
              refine reg_on rfl rfl (by assumption) ?_
              refine reg_quiet rfl (step_C tab_ok (fun K hk => hk)) ?_
              refine reg_on rfl rfl (by assumption) ?_
              refine reg_quiet rfl (load_box tab_ok rfl rfl rfl rfl) ?_
              refine reg_on rfl rfl (by assumption) ?_
              refine reg_quiet rfl (call_r hB1 rfl rfl (arg_e (arg_e arg_nil)) (.inl rfl) (fun _ => rfl)) ?_
              refine reg_on rfl rfl (by assumption) ?_
              refine reg_quiet rfl (step_C tab_ok (fun K hk => hk)) ?_
              refine reg_quiet rfl (pick_T tab_ok rfl (by assumption) rfl) ?_
              refine reg_quiet rfl (step_C tab_ok (fun K hk => hk)) ?_
              refine reg_on rfl rfl rfl ?_
              refine reg_quiet rfl (step_C tab_ok (fun K hk => hk)) ?_
              refine reg_on rfl rfl rfl ?_
              refine reg_quiet rfl (load_box tab_ok rfl rfl rfl rfl) ?_
              refine reg_on rfl rfl rfl ?_
              refine reg_quiet rfl (call_r hB2 rfl rfl (arg_e (arg_e arg_nil)) (.inl rfl) (fun _ => rfl)) ?_
              refine reg_on rfl rfl rfl ?_
              refine reg_quiet rfl (step_C tab_ok (fun K hk => hk)) ?_
              refine reg_quiet rfl (pick_T tab_ok rfl rfl rfl) ?_
              refine reg_nil ?_
              refine seq_n ?_
              refine wc_true rfl rfl ?_
              refine wc_seq ?_
              refine wc_region ?_
              refine reg_quiet rfl (load_box tab_ok rfl rfl rfl rfl) ?_
              refine reg_quiet rfl (load_box tab_ok rfl rfl rfl rfl) ?_
              refine reg_new2 (call_new hD3 rfl rfl (arg_A rfl rfl lp1 lp2 (arg_e arg_nil)) (.inr (doT_plain _ _ _ _ _ _ _ _ _ _)) rfl rfl) rfl ?_
              refine reg_quiet rfl (step_C tab_ok (fun K hk => hk)) ?_
              refine reg_quiet rfl (step_C tab_ok (fun K hk => hk)) ?_
              refine reg_quiet rfl (step_C tab_ok (fun K hk => hk)) ?_
              refine reg_quiet rfl (step_C tab_ok (fun K hk => hk)) ?_
              refine reg_new (step_C tab_ok (fun K hk => hk)) rfl ?_
              refine reg_new (step_C tab_ok (fun K hk => hk)) rfl ?_
              refine reg_store (store_row tab_ok rfl rfl rfl ⟨_, ⟨rfl, rfl, rfl⟩, rfl⟩ rfl) ?_
              refine reg_store (store_row tab_ok rfl rfl rfl ⟨_, ⟨rfl, rfl, rfl⟩, rfl⟩ rfl) ?_
              refine reg_quiet rfl (step_C tab_ok (fun K hk => hk)) ?_
              refine reg_nil ?_
              refine seq_n ?_
              refine wc_seq ?_
              refine wc_region ?_
              refine reg_quiet rfl (step_C tab_ok (fun K hk => hk)) ?_
              refine reg_quiet rfl (step_C tab_ok (fun K hk => hk)) ?_
              refine reg_quiet rfl (step_C tab_ok (fun K hk => hk)) ?_
              refine reg_on rfl rfl rfl ?_
              refine reg_quiet rfl (load_box tab_ok rfl rfl rfl rfl) ?_
              refine reg_on rfl rfl rfl ?_
              refine reg_quiet rfl (load_box tab_ok rfl rfl rfl rfl) ?_
              refine reg_on rfl rfl rfl ?_
              refine reg_quiet rfl (call_r (same_is _ _ _ _ s5 s6 s1 s2) rfl rfl (arg_A rfl rfl la2 lb2 (arg_A rfl rfl l1 l2 arg_nil)) (.inr (bool_plain _)) (fun _ => rfl)) ?_
              refine reg_on rfl rfl rfl ?_
              refine reg_quiet rfl (step_C tab_ok (fun K hk => hk)) ?_
              refine reg_quiet rfl (pick_F tab_ok rfl rfl rfl) ?_
              refine reg_nil ?_
              refine seq_n ?_
              refine wc_false rfl (by assumption) ?_
              refine wc_skip ?_
              refine mid_n () [(67, some 67), (73, some 73), (74, some 74)] trivial ?_
              exact .of rfl rfl rfl rfl rfl ⟨⟨_, rfl, .refl _⟩, rfl, trivial⟩ ⟨⟨rfl, rfl, _, rfl, .refl _⟩, ⟨rfl, rfl, _, rfl, .refl _⟩, ⟨rfl, rfl, _, rfl, .refl _⟩, trivial⟩
        · have e3 : decide (i1 = i2) = false := decide_eq_false hi
          refine wc_seq ?_
          refine wc_region ?_
          refine reg_quiet rfl (step_C tab_ok (fun K hk => hk)) ?_
          refine reg_quiet rfl (load_box tab_ok rfl rfl ⟨_, rfl, rfl⟩ rfl) ?_
          refine reg_quiet rfl (step_C tab_ok (fun K hk => hk)) ?_
          refine reg_quiet rfl (step_C tab_ok (fun K hk => hk)) ?_
          refine reg_on rfl rfl (by assumption) ?_
          refine reg_quiet rfl (step_C tab_ok (fun K hk => hk)) ?_
          refine reg_on rfl rfl (by assumption) ?_
          refine reg_quiet rfl (load_box tab_ok rfl rfl ⟨_, rfl, rfl⟩ rfl) ?_
          refine reg_on rfl rfl (by assumption) ?_
          refine reg_quiet rfl (step_C tab_ok (fun K hk => hk)) ?_
          refine reg_quiet rfl (pick_T tab_ok rfl (by assumption) rfl) ?_
          refine reg_quiet rfl (step_C tab_ok (fun K hk => hk)) ?_
          refine reg_on rfl rfl (by assumption) ?_
          refine reg_quiet rfl (step_C tab_ok (fun K hk => hk)) ?_
          refine reg_on rfl rfl (by assumption) ?_
          refine reg_quiet rfl (load_box tab_ok rfl rfl ⟨_, rfl, rfl⟩ rfl) ?_
          refine reg_on rfl rfl (by assumption) ?_
          refine reg_quiet rfl (step_C tab_ok (fun K hk => hk)) ?_
          refine reg_on rfl rfl (by assumption) ?_
          refine reg_quiet rfl (load_box tab_ok rfl rfl ⟨_, rfl, rfl⟩ rfl) ?_
          refine reg_on rfl rfl (by assumption) ?_
          refine reg_quiet rfl (step_C tab_ok (fun K hk => hk)) ?_
          refine reg_quiet rfl (pick_T tab_ok rfl (by assumption) rfl) ?_
          refine reg_quiet rfl (step_C tab_ok (fun K hk => hk)) ?_
          refine reg_skip rfl rfl (by assumption) rfl rfl ?_
          refine reg_skip rfl rfl (by assumption) rfl rfl ?_
          refine reg_skip rfl rfl (by assumption) rfl rfl ?_
          refine reg_skip rfl rfl (by assumption) rfl rfl ?_
          refine reg_quiet rfl (pick_F tab_ok rfl (by assumption) rfl) ?_
          refine reg_quiet rfl (step_C tab_ok (fun K hk => hk)) ?_
          refine reg_skip rfl rfl rfl rfl rfl ?_
          refine reg_skip rfl rfl rfl rfl rfl ?_
          refine reg_skip rfl rfl rfl rfl rfl ?_
          refine reg_skip rfl rfl rfl rfl rfl ?_
          refine reg_quiet rfl (pick_F tab_ok rfl rfl rfl) ?_
          refine reg_nil ?_
          refine seq_n ?_
          refine wc_false rfl rfl ?_
          refine wc_skip ?_
          refine mid_n () [(67, some 67), (73, some 73), (74, some 74)] trivial ?_
          exact .of rfl rfl rfl rfl rfl ⟨⟨_, rfl, .refl _⟩, rfl, trivial⟩ ⟨⟨rfl, rfl, _, rfl, .refl _⟩, ⟨rfl, rfl, _, rfl, .refl _⟩, ⟨rfl, rfl, _, rfl, .refl _⟩, trivial⟩
      · have e2 : decide (k2 = 2) = false := decide_eq_false h2
        refine wc_seq ?_
        refine wc_region ?_
        refine reg_quiet rfl (step_C tab_ok (fun K hk => hk)) ?_
        refine reg_quiet rfl (load_box tab_ok rfl rfl ⟨_, rfl, rfl⟩ rfl) ?_
        refine reg_quiet rfl (step_C tab_ok (fun K hk => hk)) ?_
        refine reg_quiet rfl (step_C tab_ok (fun K hk => hk)) ?_
        refine reg_on rfl rfl (by assumption) ?_
        refine reg_quiet rfl (step_C tab_ok (fun K hk => hk)) ?_
        refine reg_on rfl rfl (by assumption) ?_
        refine reg_quiet rfl (load_box tab_ok rfl rfl ⟨_, rfl, rfl⟩ rfl) ?_
        refine reg_on rfl rfl (by assumption) ?_
        refine reg_quiet rfl (step_C tab_ok (fun K hk => hk)) ?_
        refine reg_quiet rfl (pick_T tab_ok rfl (by assumption) rfl) ?_
        refine reg_quiet rfl (step_C tab_ok (fun K hk => hk)) ?_
        refine reg_skip rfl rfl (by assumption) rfl rfl ?_
        refine reg_skip rfl rfl (by assumption) rfl rfl ?_
        refine reg_skip rfl rfl (by assumption) rfl rfl ?_
        refine reg_skip rfl rfl (by assumption) rfl rfl ?_
        refine reg_skip rfl rfl (by assumption) rfl rfl ?_
        refine reg_quiet rfl (pick_F tab_ok rfl (by assumption) rfl) ?_
        refine reg_quiet rfl (step_C tab_ok (fun K hk => hk)) ?_
        refine reg_skip rfl rfl rfl rfl rfl ?_
        refine reg_skip rfl rfl rfl rfl rfl ?_
        refine reg_skip rfl rfl rfl rfl rfl ?_
        refine reg_skip rfl rfl rfl rfl rfl ?_
        refine reg_quiet rfl (pick_F tab_ok rfl rfl rfl) ?_
        refine reg_quiet rfl (step_C tab_ok (fun K hk => hk)) ?_
        refine reg_skip rfl rfl rfl rfl rfl ?_
        refine reg_skip rfl rfl rfl rfl rfl ?_
        refine reg_skip rfl rfl rfl rfl rfl ?_
        refine reg_skip rfl rfl rfl rfl rfl ?_
        refine reg_quiet rfl (pick_F tab_ok rfl rfl rfl) ?_
        refine reg_nil ?_
        refine seq_n ?_
        refine wc_false rfl rfl ?_
        refine wc_skip ?_
        refine mid_n () [(67, some 67), (73, some 73), (74, some 74)] trivial ?_
        exact .of rfl rfl rfl rfl rfl ⟨⟨_, rfl, .refl _⟩, rfl, trivial⟩ ⟨⟨rfl, rfl, _, rfl, .refl _⟩, ⟨rfl, rfl, _, rfl, .refl _⟩, ⟨rfl, rfl, _, rfl, .refl _⟩, trivial⟩
    · have e1 : decide (k1 = 2) = false := decide_eq_false h1
      refine wc_seq ?_
      refine wc_region ?_
      refine reg_quiet rfl (step_C tab_ok (fun K hk => hk)) ?_
      refine reg_quiet rfl (load_box tab_ok rfl rfl ⟨_, rfl, rfl⟩ rfl) ?_
      refine reg_quiet rfl (step_C tab_ok (fun K hk => hk)) ?_
      refine reg_quiet rfl (step_C tab_ok (fun K hk => hk)) ?_
      refine reg_skip rfl rfl (by assumption) rfl rfl ?_
      refine reg_skip rfl rfl (by assumption) rfl rfl ?_
      refine reg_skip rfl rfl (by assumption) rfl rfl ?_
      refine reg_quiet rfl (pick_F tab_ok rfl (by assumption) rfl) ?_
      refine reg_quiet rfl (step_C tab_ok (fun K hk => hk)) ?_
      refine reg_skip rfl rfl rfl rfl rfl ?_
      refine reg_skip rfl rfl rfl rfl rfl ?_
      refine reg_skip rfl rfl rfl rfl rfl ?_
      refine reg_skip rfl rfl rfl rfl rfl ?_
      refine reg_skip rfl rfl rfl rfl rfl ?_
      refine reg_quiet rfl (pick_F tab_ok rfl rfl rfl) ?_
      refine reg_quiet rfl (step_C tab_ok (fun K hk => hk)) ?_
      refine reg_skip rfl rfl rfl rfl rfl ?_
      refine reg_skip rfl rfl rfl rfl rfl ?_
      refine reg_skip rfl rfl rfl rfl rfl ?_
      refine reg_skip rfl rfl rfl rfl rfl ?_
      refine reg_quiet rfl (pick_F tab_ok rfl rfl rfl) ?_
      refine reg_quiet rfl (step_C tab_ok (fun K hk => hk)) ?_
      refine reg_skip rfl rfl rfl rfl rfl ?_
      refine reg_skip rfl rfl rfl rfl rfl ?_
      refine reg_skip rfl rfl rfl rfl rfl ?_
      refine reg_skip rfl rfl rfl rfl rfl ?_
      refine reg_quiet rfl (pick_F tab_ok rfl rfl rfl) ?_
      refine reg_nil ?_
      refine seq_n ?_
      refine wc_false rfl rfl ?_
      refine wc_skip ?_
      refine mid_n () [(67, some 67), (73, some 73), (74, some 74)] trivial ?_
      exact .of rfl rfl rfl rfl rfl ⟨⟨_, rfl, .refl _⟩, rfl, trivial⟩ ⟨⟨rfl, rfl, _, rfl, .refl _⟩, ⟨rfl, rfl, _, rfl, .refl _⟩, ⟨rfl, rfl, _, rfl, .refl _⟩, trivial⟩
  intro _ _
  refine wc_of ?_
  have f3 : (decide (a12 = a12) && decide (a12 = a12)) = true := by simp
  refine wc_seq ?_
  refine wc_region ?_
  refine reg_quiet rfl (load_box tab_ok rfl rfl rfl rfl) ?_
  refine reg_new2 (call_new hF rfl rfl (arg_A rfl rfl l1 l2 arg_nil) (.inr (okT_plain _ _ _ _ _ _ _ _)) rfl rfl) rfl ?_
  refine reg_quiet rfl (step_C tab_ok (fun K hk => hk)) ?_
  refine reg_quiet rfl (step_C tab_ok (fun K hk => hk)) ?_
  refine reg_quiet rfl (step_C tab_ok (fun K hk => hk)) ?_
  refine reg_new (step_C tab_ok (fun K hk => hk)) rfl ?_
  refine reg_store (store_row tab_ok rfl rfl rfl ⟨_, ⟨rfl, rfl, rfl⟩, rfl⟩ rfl) ?_
  refine reg_quiet rfl (step_C tab_ok (fun K hk => hk)) ?_
  refine reg_nil ?_
  refine seq_n ?_
  refine wc_seq ?_
  refine wc_region ?_
  refine reg_quiet rfl (load_box tab_ok rfl rfl rfl rfl) ?_
  refine reg_new2 (call_new hC rfl rfl (arg_A rfl rfl l1 l1 arg_nil) (.inr (okT_plain _ _ _ _ _ _ _ _)) rfl rfl) rfl ?_
  refine reg_quiet rfl (step_C tab_ok (fun K hk => hk)) ?_
  refine reg_quiet rfl (step_C tab_ok (fun K hk => hk)) ?_
  refine reg_quiet rfl (step_C tab_ok (fun K hk => hk)) ?_
  refine reg_new (step_C tab_ok (fun K hk => hk)) rfl ?_
  refine reg_store (store_row tab_ok rfl rfl rfl ⟨_, ⟨rfl, rfl, rfl⟩, rfl⟩ rfl) ?_
  refine reg_quiet rfl (step_C tab_ok (fun K hk => hk)) ?_
  refine reg_nil ?_
  refine seq_n ?_
  refine wc_seq ?_
  refine wc_region ?_
  refine reg_quiet rfl (step_C tab_ok (fun K hk => hk)) ?_
  refine reg_quiet rfl (step_C tab_ok (fun K hk => hk)) ?_
  refine reg_quiet rfl (add_int tab_ok rfl rfl (wrap_i64 (by omega) (by omega))) ?_
  refine reg_quiet rfl (step_C tab_ok (fun K hk => hk)) ?_
  refine reg_quiet rfl (step_C tab_ok (fun K hk => hk)) ?_
  refine reg_on rfl rfl rfl ?_
  refine reg_quiet rfl (load_box tab_ok rfl rfl rfl rfl) ?_
  refine reg_on rfl rfl rfl ?_
  refine reg_quiet rfl (load_box tab_ok rfl rfl rfl rfl) ?_
  refine reg_on rfl rfl rfl ?_
  refine reg_quiet rfl (call_r (same_is _ _ _ _ s1 s1 s1 s1) rfl rfl (arg_A rfl rfl l1 l1 (arg_A rfl rfl l1 l1 arg_nil)) (.inr (bool_plain _)) (fun _ => rfl)) ?_
  refine reg_quiet rfl (pick_T tab_ok rfl rfl rfl) ?_
  refine reg_quiet rfl (step_C tab_ok (fun K hk => hk)) ?_
  refine reg_on rfl rfl (by assumption) ?_
  refine reg_quiet rfl (call_r lives_is rfl rfl arg_nil (.inl rfl) (fun _ => rfl)) ?_
  refine reg_quiet rfl (pick_T tab_ok rfl (by assumption) rfl) ?_
  refine reg_quiet rfl (step_C tab_ok (fun K hk => hk)) ?_
  refine reg_nil ?_
  refine seq_n ?_
  refine wc_ret ?_
  exact ⟨trivial, [], .of rfl rfl rfl rfl rfl ⟨⟨_, rfl, AVLe.of_eq rfl⟩, rfl, trivial⟩ trivial⟩
theorem bad_doA {a : Blks} {o p : Oper} : badOp ((doA a o).length : Int) p = badOp (a.length : Int) p := by rw [doA_len]
theorem order_comm (a b : Blks) (o p : Oper) (h1 : o.kind ≠ 3) (h2 : p.kind ≠ 3) (h : o.index ≠ p.index) :
    doA (doA a o) p = doA (doA a p) o ∧ doB (doA a o) (doB a b o) p = doB (doA a p) (doB a b p) o ∧ doR a o = doR (doA a p) o ∧ doR (doA a o) p = doR a p := by
  have hB : ∀ (x : Blks) (y : Blks) (q : Oper), q.kind ≠ 3 → doB x y q = y := by
    intro x y q hq
    unfold doB
    rw [if_neg hq, ite_self]
  have hR : ∀ (x y : Oper), y.kind ≠ 3 → x.kind ≠ 3 → x.index ≠ y.index → doR a x = doR (doA a y) x := by
    intro x y hy3 hx3 hxy
    unfold doR doV doE
    rw [bad_doA]
    cases hx : badOp a.length x with
    | true => rfl
    | false =>
      have hx' := good_op hx
      unfold doA
      cases hy : badOp a.length y with
      | true => rfl
      | false =>
        have hy' := good_op hy
        by_cases hk : y.kind = 2
        · have : (a.set y.index.toNat y.data)[x.index.toNat]? = a[x.index.toNat]? := List.getElem?_set_ne (by omega)
          simp only [hk, if_true, this, Bool.false_eq_true, if_false]
        · simp only [hk, if_false, Bool.false_eq_true]
  refine ⟨?_, ?_, hR o p h2 h1 h, (hR p o h1 h2 (Ne.symm h)).symm⟩
  · rw [show doA (doA a o) p = if badOp ((doA a o).length : Int) p = true then doA a o else if p.kind = 2 then (doA a o).set p.index.toNat p.data else doA a o from rfl,
      show doA (doA a p) o = if badOp ((doA a p).length : Int) o = true then doA a p else if o.kind = 2 then (doA a p).set o.index.toNat o.data else doA a p from rfl, bad_doA, bad_doA]
    unfold doA
    cases ho : badOp a.length o with
    | true => simp
    | false =>
      have ho' := good_op ho
      cases hp : badOp a.length p with
      | true => simp
      | false =>
        have hp' := good_op hp
        by_cases k1 : o.kind = 2
        · by_cases k2 : p.kind = 2
          · simp only [k1, k2, if_true, Bool.false_eq_true, if_false]
            exact List.set_comm _ _ (by omega)
          · simp only [k1, k2, if_true, Bool.false_eq_true, if_false]
        · by_cases k2 : p.kind = 2
          · simp only [k1, k2, if_true, Bool.false_eq_true, if_false]
          · simp only [k1, k2, Bool.false_eq_true, if_false]
  · rw [hB _ _ p h2, hB _ _ o h1, hB _ _ o h1, hB _ _ p h2]
theorem order_over (a b : Blks) (o p : Oper) (h1 : o.kind = 2) (h2 : p.kind = 2) (h : o.index = p.index) (v1 : badOp a.length o = false) (v2 : badOp a.length p = false) :
    doA a p = doA (doA a o) p ∧ doB a b p = doB (doA a o) (doB a b o) p := by
  constructor
  · rw [show doA (doA a o) p = if badOp ((doA a o).length : Int) p = true then doA a o else if p.kind = 2 then (doA a o).set p.index.toNat p.data else doA a o from rfl, bad_doA]
    unfold doA
    simp only [v1, v2, h1, h2, h, if_true, Bool.false_eq_true, if_false, List.set_set]
  · unfold doB
    simp only [h1, h2, show ((2 : Int) = 3) = False from by simp, if_false, ite_self]
theorem okA_of {N : Nat} {a b : Blks} (h1 : N = a.length) (h2 : N = b.length) (n1 : 1 ≤ N) (n2 : N ≤ 4096) : okA a b = true := by
  have hb : badN (a.length : Int) = false := by
    rw [Bool.or_eq_false_iff]
    exact ⟨decide_eq_false (by omega), decide_eq_false (by omega)⟩
  rw [okA, hb, decide_eq_true (by omega)]
  rfl
theorem ownR_of {N : Nat} {a b : Blks} (h1 : N = a.length) (h2 : N = b.length) : ownR a b = ownA 64 N (some N) 65 N (some N) := by rw [ownR, ← h1, ← h2]
theorem Do_N {N : Nat} {a b : Blks} (o : Oper) (h1 : N = a.length) (h2 : N = b.length) (n1 : 1 ≤ N) (n2 : N ≤ 4096) : FnIs Try.prog 20 [.d (encA a b), .d (encOp o)] [] (tup3 (ownA 64 N (some N) 65 N (some N)) (.d (encRes (doR a o))) (.int .i64 0)) [(64, rowB false (doA a o)), (65, rowB false (doB a b o))] := by
  have h := Do_ok a b o (okA_of h1 h2 n1 n2)
  rw [ownR_of h1 h2] at h
  exact h
theorem order_law (x : D) (hx : ∃ a b, x = .cons (u8s a) (.cons (.arr 3 encT b) .nil)) (N : Nat) (u v : List Int) (a b : Blks) (o p : Oper) (lp1 : N = a.length) (lp2 : N = b.length) (n1 : 1 ≤ N) (n2 : N ≤ 20)
    (hR : FnIs Try.prog 25 [.d x] [] (ownA 64 N none 65 N none) [(64, rowB false a), (65, rowB false b)])
    (hO1 : FnIs Try.prog 26 [.d (i6 N), .d (encT u)] [] (.d (encOp o)) []) (hO2 : FnIs Try.prog 26 [.d (i6 N), .d (encT v)] [] (.d (encOp p)) []) :
    FnIs Try.prog 4 [.d x, .d (encT u), .d (encT v)] [] (.bool true) [] := by
  have hY := array_is a b (by omega) (by omega) (by omega) (by omega)
  rw [ownR_of lp1 lp2] at hY
  have la1 : N = (doA a o).length := by rw [doA_len]; exact lp1
  have lb1 : N = (doB a b o).length := by rw [doB_len a b o (by omega)]; exact lp2
  have la2 : N = (doA a p).length := by rw [doA_len]; exact lp1
  have lb2 : N = (doB a b p).length := by rw [doB_len a b p (by omega)]; exact lp2
  have l1 : N = (doA (doA a o) p).length := by rw [doA_len]; exact la1
  have l2 : N = (doB (doA a o) (doB a b o) p).length := by rw [doB_len _ _ p (by omega)]; exact lb1
  have l3 : N = (doA (doA a p) o).length := by rw [doA_len]; exact la2
  have l4 : N = (doB (doA a p) (doB a b p) o).length := by rw [doB_len _ _ o (by omega)]; exact lb2
  have hF := flush_ok _ _ (okA_of l1 l2 n1 (by omega))
  have hC := crash_ok _ _ (okA_of l1 l1 n1 (by omega))
  have hB1 := bad_is N o
  have hB2 := bad_is N p
  simp only [okR, ← l1] at hF hC
  obtain ⟨k1, i1, d1⟩ := o
  obtain ⟨k2, i2, d2⟩ := p
  exact order_core x u v N a b _ _ _ _ _ _ _ _ k1 i1 k2 i2 d1 d2 _ _ _ _ _ _ hx hR hO1 hO2 hY (Do_N _ lp1 lp2 n1 (by omega)) (Do_N _ la1 lb1 n1 (by omega)) (Do_N _ lp1 lp2 n1 (by omega)) (Do_N _ la2 lb2 n1 (by omega)) hF hC hB1 hB2
    lp1 lp2 la1 lb1 la2 lb2 l1 l2 l3 l4 n2 (fun e1 e2 e3 => order_comm a b _ _ e1 e2 e3) (fun e1 e2 e3 e4 e5 => order_over a b _ _ e1 e2 e3 (by rw [← lp1]; exact e4) (by rw [← lp1]; exact e5))
theorem arraysOrder_is (bl : Int) (zs : List (List Int)) (u v : List Int) (hb : 0 ≤ bl ∧ bl ≤ 255) (h3 : Three zs) (hu : u.length = 3 ∧ ∀ a ∈ u, 0 ≤ a ∧ a ≤ 255) (hv : v.length = 3 ∧ ∀ a ∈ v, 0 ≤ a ∧ a ≤ 255) :
    FnIs Try.prog 4 [.d (encO bl zs), .d (encT u), .d (encT v)] [] (.bool true) [] := by
  have k1 := nOf_bound hb
  have hN : nOf bl = ((nOf bl).toNat : Int) := by omega
  have r1 := ref_is bl zs hb h3 (nOf bl).toNat hN
  have hg := runF_good (zeros_good (nOf bl).toNat) (opsOf bl zs) (opsOf bl zs).length
  match u, hu with
  | [z0, z1, z2], hu =>
    match v, hv with
    | [w0, w1, w2], hv =>
      have o1 := op_is (nOf bl).toNat z0 z1 z2 (hu.2 z0 (by simp)) (hu.2 z1 (by simp)) (by omega)
      have o2 := op_is (nOf bl).toNat w0 w1 w2 (hv.2 w0 (by simp)) (hv.2 w1 (by simp)) (by omega)
      exact order_law _ ⟨bl, zs, rfl⟩ _ _ _ _ _ _ _ hg.l1.symm hg.l2.symm (by omega) (by omega) r1 o1 o2
end Go.Proofs.Ytjpjchohpjbknaa

/- ArraysErrors: arrays that are not valid are refused by all functions; operations are bad as the definition says. -/
namespace Go.Proofs.Ytjpjchohpjbknaa
open Go.Eng
set_option maxHeartbeats 4000000
set_option maxRecDepth 4000
attribute [local irreducible] WC RegS RegD SeqQ BlkQ ScoQ RegK CutK Sat SatN FnIs LoopQ StepIs OpIs
theorem play_plain (n m k c3 : Nat) (c c2 : Option Nat) (e : Int) (a b : Blks) (e1 e2 e3 : Bool) (rs : List Res) : PlainRes (tup3 (ownA 64 n c 65 m c2) (.own 66 0 k c3 none) (.int .i64 e)) [(64, rowB e1 a), (65, rowB e2 b), (66, .ds 49 33 e3 encRes rs)] := .of ⟨⟨trivial, trivial, trivial⟩, trivial, trivial, trivial⟩ (plain_rows_cons (fun _ => block_plain _) (plain_rows_cons (fun _ => block_plain _) (plain_rows_cons (fun _ => ⟨block_plain _, trivial, trivial⟩) plain_rows_nil)))
theorem errP_plain (e : Int) : PlainRes (errP e) [] := .of ⟨⟨trivial, trivial, trivial⟩, trivial, trivial, trivial⟩ plain_rows_nil
theorem errD_plain (e : Int) : PlainRes (errD e) [] := .of ⟨⟨trivial, trivial, trivial⟩, ⟨block_plain _, trivial, trivial⟩, trivial, trivial⟩ plain_rows_nil
theorem err_ok
    (n : Int) (p q : Blks) (k i : Int) (d : List Int) (v : Bool) (hp : p.length ≤ 20) (hq : q.length ≤ 20) (hd : d.length ≤ 100)
    (hNew : (badN n = true ∧ FnIs Try.prog 15 [.d (i6 n)] [] (.tup (.acons (.d zeroA) (.acons (.int .i64 1) .anil))) []) ∨ (badN n = false ∧ ∃ M : Nat, FnIs Try.prog 15 [.d (i6 n)] [] (okT M none M none) [(64, rowB true (zeros M)), (65, rowB true (zeros M))]))
    (hB1 : FnIs Try.prog 21 [.d (i6 n), .d (encOp ⟨k, i, d⟩)] [] (.bool v) []) (hB2 : FnIs Try.prog 30 [.d (i6 n), .d (encOp ⟨k, i, d⟩)] [] (.bool v) [])
    (N : Nat) (a1 b1 a2 b2 : Blks) (x : Res) (m : Nat) (dl : List Int) (h0 : p.length ≠ 0) (hpq : p.length = q.length)
    (hK : FnIs Try.prog 22 [.d (encA p q)] [] (.int .i64 0) [])
    (hD : FnIs Try.prog 20 [.d (encA p q), .d (encOp ⟨k, i, d⟩)] [] (tup3 (ownA 64 N (some N) 65 N (some N)) (.d (encRes x)) (.int .i64 0)) [(64, rowB false a1), (65, rowB false b1)])
    (hF : FnIs Try.prog 28 [.d (encA p q)] [] (okT N (some N) N (some N)) [(64, rowB false p), (65, rowB false p)])
    (hC : FnIs Try.prog 29 [.d (encA p q)] [] (okT N (some N) N (some N)) [(64, rowB false q), (65, rowB false q)])
    (hP : FnIs Try.prog 18 [.d (encA p q), .d (.arr 3 encOp [⟨k, i, d⟩])] [] (tup3 (ownA 64 N (some N) 65 N (some N)) (.own 66 0 1 33 none) (.int .i64 0)) [(64, rowB false a2), (65, rowB false b2), (66, .ds 49 33 true encRes [x])])
    (hX : FnIs Try.prog 31 [.d (encA p q), .d (encA p q)] [] (.tup (.acons (.own 64 0 m 1 (some m)) (.acons (.int .i64 0) .anil))) [(64, .ds 3 1 false i6 dl)])
    (hZZ : (p.length = 1 ∧ ∃ m2 dl2, FnIs Try.prog 31 [.d (encA (zeros 1) (zeros 1)), .d (encA p q)] [] (.tup (.acons (.own 64 0 m2 1 (some m2)) (.acons (.int .i64 0) .anil))) [(64, .ds 3 1 false i6 dl2)]) ∨ (p.length ≠ 1 ∧ FnIs Try.prog 31 [.d (encA (zeros 1) (zeros 1)), .d (encA p q)] [] (errL 1) []))
    : FnIs Try.prog 5 [.d (encA p q), .d (encOp ⟨k, i, d⟩), .d (i6 n)] [] (.bool true) [] := by
  have g1 : decide ((p.length : Int) > 20) = false := decide_eq_false (by omega)
  have g2 : decide ((q.length : Int) > 20) = false := decide_eq_false (by omega)
  have g3 : decide ((d.length : Int) > 100) = false := decide_eq_false (by omega)
  have gv : (v != v) = false := by simp
  refine fnIs_of tab_ok Try.func5 rfl rfl rfl ?_
  refine wc_seq ?_
  refine wc_region ?_
  refine reg_new (step_C tab_ok (fun K hk => hk)) rfl ?_
  refine reg_new (step_C tab_ok (fun K hk => hk)) rfl ?_
  refine reg_quiet rfl (step_C tab_ok (fun K hk => hk)) ?_
  refine reg_nil ?_
  refine seq_n ?_
  refine wc_seq ?_
  refine wc_seq ?_
  refine wc_region ?_
  refine reg_quiet rfl (step_C tab_ok (fun K hk => hk)) ?_
  refine reg_quiet rfl (load_box tab_ok rfl rfl ⟨_, rfl, rfl⟩ rfl) ?_
  refine reg_quiet rfl (len_arr tab_ok rfl rfl) ?_
  refine reg_quiet rfl (step_C tab_ok (fun K hk => hk)) ?_
  refine reg_quiet rfl (step_C tab_ok (fun K hk => hk)) ?_
  refine reg_on rfl rfl (by assumption) ?_
  refine reg_quiet rfl (step_C tab_ok (fun K hk => hk)) ?_
  refine reg_on rfl rfl (by assumption) ?_
  refine reg_quiet rfl (load_box tab_ok rfl rfl ⟨_, rfl, rfl⟩ rfl) ?_
  refine reg_on rfl rfl (by assumption) ?_
  refine reg_quiet rfl (len_arr tab_ok rfl rfl) ?_
  refine reg_on rfl rfl (by assumption) ?_
  refine reg_quiet rfl (step_C tab_ok (fun K hk => hk)) ?_
  refine reg_quiet rfl (pick_F tab_ok rfl (by assumption) rfl) ?_
  refine reg_quiet rfl (step_C tab_ok (fun K hk => hk)) ?_
  refine reg_on rfl rfl (by assumption) ?_
  refine reg_quiet rfl (step_C tab_ok (fun K hk => hk)) ?_
  refine reg_on rfl rfl (by assumption) ?_
  refine reg_quiet rfl (load_box tab_ok rfl rfl ⟨_, rfl, rfl⟩ rfl) ?_
  refine reg_on rfl rfl (by assumption) ?_
  refine reg_quiet rfl (len_arr tab_ok rfl rfl) ?_
  refine reg_on rfl rfl (by assumption) ?_
  refine reg_quiet rfl (step_C tab_ok (fun K hk => hk)) ?_
  refine reg_quiet rfl (pick_F tab_ok rfl (by assumption) rfl) ?_
  refine reg_nil ?_
  refine seq_n ?_
  refine wc_false rfl (by assumption) ?_
  refine wc_skip ?_
  refine seq_n ?_
  rcases hNew with ⟨hb, hN⟩ | ⟨hb, M, hN⟩
  · refine wc_seq ?_
    refine wc_region ?_
    refine reg_quiet rfl (step_C tab_ok (fun K hk => hk)) ?_
    refine reg_quiet rfl (call_new hN rfl rfl (arg_e arg_nil) (.inl rfl) rfl rfl) ?_
    refine reg_quiet rfl (step_C tab_ok (fun K hk => hk)) ?_
    refine reg_quiet rfl (step_C tab_ok (fun K hk => hk)) ?_
    refine reg_quiet rfl (step_C tab_ok (fun K hk => hk)) ?_
    refine reg_new (step_C tab_ok (fun K hk => hk)) rfl ?_
    refine reg_store (store_row tab_ok rfl rfl rfl ⟨_, ⟨rfl, rfl, rfl⟩, rfl⟩ rfl) ?_
    refine reg_quiet rfl (step_C tab_ok (fun K hk => hk)) ?_
    refine reg_nil ?_
    refine seq_n ?_
    refine wc_mid (fun _ : Unit => ⟨[(3, .ptr 64 []), (4, .ptr 65 [])], [(64, some (.box 30 (.d (encA p q)))), (65, some (.box 47 (.d (encOp ⟨k, i, d⟩))))], 72, Try.f5.ntmps, 64⟩) (fun _ => True) ?_ ?_
    · rcases (Bool.or_eq_true_iff.mp hb) with h1 | h1
      · have e1 : decide (n ≥ 1) = false := decide_eq_false (by have := of_decide_eq_true h1; omega)
        refine wc_seq ?_
        refine wc_draw (by kernel_rfl) ?_
        refine dreg_q [8] [] rfl (step_C tab_ok (fun K hk => hk)) ?_
        refine dreg_q [51] [] rfl (step_C tab_ok (fun K hk => hk)) ?_
        refine dreg_q [2] [] rfl (step_C tab_ok (fun K hk => hk)) ?_
        refine dreg_q [53] [] rfl (step_C tab_ok (fun K hk => hk)) ?_
        refine dreg_q [54] [] rfl (step_C tab_ok (fun K hk => hk)) ?_
        refine dreg_offq [55, 2] rfl rfl (by assumption) rfl ?_
        refine dreg_offq [55, 56] rfl rfl (by assumption) rfl ?_
        refine dreg_q [55, 57] [] rfl (pick_F tab_ok rfl (by assumption) rfl) ?_
        refine dreg_q [52, 58] [] rfl (step_C tab_ok (fun K hk => hk)) ?_
        refine dreg_q [59] [] rfl (step_C tab_ok (fun K hk => hk)) ?_
        refine dreg_onq [60, 8] [] rfl rfl rfl rfl (step_C tab_ok (fun K hk => hk)) ?_
        refine dreg_onq [60, 61] [] rfl rfl rfl rfl (step_C tab_ok (fun K hk => hk)) ?_
        refine dreg_onq [60, 62] [] rfl rfl rfl rfl (step_C tab_ok (fun K hk => hk)) ?_
        refine dreg_onq [63, 8] [] rfl rfl rfl rfl (step_C tab_ok (fun K hk => hk)) ?_
        refine dreg_onq [63, 64] [] rfl rfl rfl rfl (step_C tab_ok (fun K hk => hk)) ?_
        refine dreg_onq [63, 65] [] rfl rfl rfl rfl (step_C tab_ok (fun K hk => hk)) ?_
        refine dreg_onq [66, 7] [256] rfl rfl rfl rfl (step_C tab_ok (fun K hk => hk)) ?_
        refine dreg_onq [66, 67] [256] rfl rfl rfl rfl (load_box tab_ok rfl rfl ⟨_, rfl, rfl⟩ rfl) ?_
        refine dreg_onq [66, 68] [] rfl rfl rfl rfl (len_nil tab_ok rfl rfl) ?_
        refine dreg_onq [66, 7] [256] rfl rfl rfl rfl (step_C tab_ok (fun K hk => hk)) ?_
        refine dreg_onq [66, 70] [256] rfl rfl rfl rfl (load_box tab_ok rfl rfl ⟨_, rfl, rfl⟩ rfl) ?_
        refine dreg_onq [66, 71] [] rfl rfl rfl rfl (len_nil tab_ok rfl rfl) ?_
        refine dreg_onq [66, 69, 72] [] rfl rfl rfl rfl (add_int tab_ok rfl rfl (wrap_i64 (by omega) (by omega))) ?_
        refine dreg_onq [66, 73] [] rfl rfl rfl rfl (step_C tab_ok (fun K hk => hk)) ?_
        refine dreg_onq [63, 66, 74] [] rfl rfl rfl rfl (pick_F tab_ok rfl rfl rfl) ?_
        refine dreg_onq [60, 63, 75] [] rfl rfl rfl rfl (pick_T tab_ok rfl rfl rfl) ?_
        refine dreg_q [60, 76] [] rfl (pick_F tab_ok rfl rfl rfl) ?_
        refine dreg_q [77] [] rfl (step_C tab_ok (fun K hk => hk)) ?_
        refine dreg_onq [78, 2] [] rfl rfl rfl rfl (step_C tab_ok (fun K hk => hk)) ?_
        refine dreg_onq [78, 4] [72] rfl rfl rfl rfl (load_box tab_ok rfl rfl rfl rfl) ?_
        refine dreg_onq [78, 79, 80] [] rfl rfl rfl rfl (call_r hB1 rfl rfl (arg_e (arg_e arg_nil)) (.inl rfl) (fun _ => rfl)) ?_
        refine dreg_onq [78, 2] [] rfl rfl rfl rfl (step_C tab_ok (fun K hk => hk)) ?_
        refine dreg_onq [78, 4] [72] rfl rfl rfl rfl (load_box tab_ok rfl rfl rfl rfl) ?_
        refine dreg_onq [78, 82, 83] [] rfl rfl rfl rfl (call_r hB2 rfl rfl (arg_e (arg_e arg_nil)) (.inl rfl) (fun _ => rfl)) ?_
        refine dreg_onq [78, 81, 84] [] rfl rfl rfl rfl (step_C tab_ok (fun K hk => hk)) ?_
        refine dreg_q [78, 85] [] rfl (pick_F tab_ok rfl rfl rfl) ?_
        refine dreg_end (by kernel_rfl) ?_
        refine seq_n ?_
        refine wc_false rfl (by assumption) ?_
        refine wc_skip ?_
        refine mid_n () [(64, some 64), (65, some 72)] trivial ?_
        exact .of rfl rfl rfl rfl rfl ⟨⟨_, rfl, .refl _⟩, rfl, ⟨_, rfl, .refl _⟩, rfl, trivial⟩ ⟨⟨rfl, rfl, _, rfl, .refl _⟩, ⟨rfl, rfl, _, rfl, .refl _⟩, trivial⟩
      · have e2 : decide (n ≤ 4096) = false := decide_eq_false (by have := of_decide_eq_true h1; omega)
        have e1 : decide (n ≥ 1) = true := decide_eq_true (by have := of_decide_eq_true h1; omega)
        have e3 : (false != decide (n ≤ 4096)) = false := by rw [e2]; rfl
        refine wc_seq ?_
        refine wc_draw (by kernel_rfl) ?_
        refine dreg_q [8] [] rfl (step_C tab_ok (fun K hk => hk)) ?_
        refine dreg_q [51] [] rfl (step_C tab_ok (fun K hk => hk)) ?_
        refine dreg_q [2] [] rfl (step_C tab_ok (fun K hk => hk)) ?_
        refine dreg_q [53] [] rfl (step_C tab_ok (fun K hk => hk)) ?_
        refine dreg_q [54] [] rfl (step_C tab_ok (fun K hk => hk)) ?_
        refine dreg_onq [55, 2] [] rfl rfl (by assumption) rfl (step_C tab_ok (fun K hk => hk)) ?_
        refine dreg_onq [55, 56] [] rfl rfl (by assumption) rfl (step_C tab_ok (fun K hk => hk)) ?_
        refine dreg_q [55, 57] [] rfl (pick_T tab_ok rfl (by assumption) rfl) ?_
        refine dreg_q [52, 58] [] rfl (step_C tab_ok (fun K hk => hk)) ?_
        refine dreg_q [59] [] rfl (step_C tab_ok (fun K hk => hk)) ?_
        refine dreg_onq [60, 8] [] rfl rfl (by assumption) rfl (step_C tab_ok (fun K hk => hk)) ?_
        refine dreg_onq [60, 61] [] rfl rfl (by assumption) rfl (step_C tab_ok (fun K hk => hk)) ?_
        refine dreg_onq [60, 62] [] rfl rfl (by assumption) rfl (step_C tab_ok (fun K hk => hk)) ?_
        refine dreg_onq [63, 8] [] rfl rfl rfl rfl (step_C tab_ok (fun K hk => hk)) ?_
        refine dreg_onq [63, 64] [] rfl rfl rfl rfl (step_C tab_ok (fun K hk => hk)) ?_
        refine dreg_onq [63, 65] [] rfl rfl rfl rfl (step_C tab_ok (fun K hk => hk)) ?_
        refine dreg_onq [66, 7] [256] rfl rfl rfl rfl (step_C tab_ok (fun K hk => hk)) ?_
        refine dreg_onq [66, 67] [256] rfl rfl rfl rfl (load_box tab_ok rfl rfl ⟨_, rfl, rfl⟩ rfl) ?_
        refine dreg_onq [66, 68] [] rfl rfl rfl rfl (len_nil tab_ok rfl rfl) ?_
        refine dreg_onq [66, 7] [256] rfl rfl rfl rfl (step_C tab_ok (fun K hk => hk)) ?_
        refine dreg_onq [66, 70] [256] rfl rfl rfl rfl (load_box tab_ok rfl rfl ⟨_, rfl, rfl⟩ rfl) ?_
        refine dreg_onq [66, 71] [] rfl rfl rfl rfl (len_nil tab_ok rfl rfl) ?_
        refine dreg_onq [66, 69, 72] [] rfl rfl rfl rfl (add_int tab_ok rfl rfl (wrap_i64 (by omega) (by omega))) ?_
        refine dreg_onq [66, 73] [] rfl rfl rfl rfl (step_C tab_ok (fun K hk => hk)) ?_
        refine dreg_onq [63, 66, 74] [] rfl rfl rfl rfl (pick_F tab_ok rfl rfl rfl) ?_
        refine dreg_onq [60, 63, 75] [] rfl rfl (by assumption) rfl (pick_T tab_ok rfl rfl rfl) ?_
        refine dreg_q [60, 76] [] rfl (pick_F tab_ok rfl (by assumption) rfl) ?_
        refine dreg_q [77] [] rfl (step_C tab_ok (fun K hk => hk)) ?_
        refine dreg_onq [78, 2] [] rfl rfl rfl rfl (step_C tab_ok (fun K hk => hk)) ?_
        refine dreg_onq [78, 4] [72] rfl rfl rfl rfl (load_box tab_ok rfl rfl rfl rfl) ?_
        refine dreg_onq [78, 79, 80] [] rfl rfl rfl rfl (call_r hB1 rfl rfl (arg_e (arg_e arg_nil)) (.inl rfl) (fun _ => rfl)) ?_
        refine dreg_onq [78, 2] [] rfl rfl rfl rfl (step_C tab_ok (fun K hk => hk)) ?_
        refine dreg_onq [78, 4] [72] rfl rfl rfl rfl (load_box tab_ok rfl rfl rfl rfl) ?_
        refine dreg_onq [78, 82, 83] [] rfl rfl rfl rfl (call_r hB2 rfl rfl (arg_e (arg_e arg_nil)) (.inl rfl) (fun _ => rfl)) ?_
        refine dreg_onq [78, 81, 84] [] rfl rfl rfl rfl (step_C tab_ok (fun K hk => hk)) ?_
        refine dreg_q [78, 85] [] rfl (pick_F tab_ok rfl rfl rfl) ?_
        refine dreg_end (by kernel_rfl) ?_
        refine seq_n ?_
        refine wc_false rfl (by assumption) ?_
        refine wc_skip ?_
        refine mid_n () [(64, some 64), (65, some 72)] trivial ?_
        exact .of rfl rfl rfl rfl rfl ⟨⟨_, rfl, .refl _⟩, rfl, ⟨_, rfl, .refl _⟩, rfl, trivial⟩ ⟨⟨rfl, rfl, _, rfl, .refl _⟩, ⟨rfl, rfl, _, rfl, .refl _⟩, trivial⟩
    intro _ _
    refine wc_of ?_
    have f0 : decide ((p.length : Int) = 0) = false := decide_eq_false (by omega)
    have f1 : (!decide ((p.length : Int) = (q.length : Int))) = false := by rw [decide_eq_true (by omega)]; rfl
    have fx : decide (x = x) = true := by simp
    rcases hZZ with ⟨hz, m2, dl2, hZ⟩ | ⟨hz, hZ⟩
    · have f2 : decide ((p.length : Int) = 1) = true := decide_eq_true (by omega)
      have f3 : (true != decide ((p.length : Int) = 1)) = false := by rw [f2]; rfl
      refine wc_seq ?_
      refine wc_region ?_
      refine reg_quiet rfl (step_C tab_ok (fun K hk => hk)) ?_
      refine reg_nil ?_
      refine seq_n ?_
      refine wc_seq ?_
      refine wc_seq ?_
      refine wc_region ?_
      refine reg_quiet rfl (step_C tab_ok (fun K hk => hk)) ?_
      refine reg_quiet rfl (load_box tab_ok rfl rfl ⟨_, rfl, rfl⟩ rfl) ?_
      refine reg_quiet rfl (len_arr tab_ok rfl rfl) ?_
      refine reg_quiet rfl (step_C tab_ok (fun K hk => hk)) ?_
      refine reg_quiet rfl (step_C tab_ok (fun K hk => hk)) ?_
      refine reg_on rfl rfl (by assumption) ?_
      refine reg_quiet rfl (step_C tab_ok (fun K hk => hk)) ?_
      refine reg_on rfl rfl (by assumption) ?_
      refine reg_quiet rfl (load_box tab_ok rfl rfl ⟨_, rfl, rfl⟩ rfl) ?_
      refine reg_on rfl rfl (by assumption) ?_
      refine reg_quiet rfl (len_arr tab_ok rfl rfl) ?_
      refine reg_on rfl rfl (by assumption) ?_
      refine reg_quiet rfl (step_C tab_ok (fun K hk => hk)) ?_
      refine reg_on rfl rfl (by assumption) ?_
      refine reg_quiet rfl (load_box tab_ok rfl rfl ⟨_, rfl, rfl⟩ rfl) ?_
      refine reg_on rfl rfl (by assumption) ?_
      refine reg_quiet rfl (len_arr tab_ok rfl rfl) ?_
      refine reg_on rfl rfl (by assumption) ?_
      refine reg_quiet rfl (step_C tab_ok (fun K hk => hk)) ?_
      refine reg_quiet rfl (pick_F tab_ok rfl (by assumption) rfl) ?_
      refine reg_nil ?_
      refine seq_n ?_
      refine wc_false rfl (by assumption) ?_
      refine wc_skip ?_
      refine seq_n ?_
      refine wc_seq ?_
      refine wc_draw (by kernel_rfl) ?_
      refine dreg_w [] [] rfl (make_full (enc := encBlock) (s := 32) (N := 1) tab_ok zeroBlock rfl rfl rfl rfl rfl rfl rfl (by decide) rfl) ?_
      refine dreg_w [] [] rfl (make_full (enc := encBlock) (s := 32) (N := 1) tab_ok zeroBlock rfl rfl rfl rfl rfl rfl rfl (by decide) rfl) ?_
      refine dreg_q [100, 101] [184, 192] rfl (build_struct tab_ok rfl rfl rfl rfl) ?_
      refine dreg_w [] [] rfl (step_C tab_ok (fun K hk => hk)) ?_
      refine dreg_s [10, 102] [208, 184, 192] (store_row tab_ok rfl rfl rfl ⟨_, ⟨rfl, rfl, rfl⟩, rfl⟩ rfl) ?_
      refine dreg_end (by kernel_rfl) ?_
      refine seq_n ?_
      refine wc_seq ?_
      refine wc_region ?_
      refine reg_quiet rfl (load_box tab_ok rfl rfl rfl rfl) ?_
      refine reg_quiet rfl (load_box tab_ok rfl rfl rfl rfl) ?_
      refine reg_new2 (call_new hD rfl rfl (arg_e (arg_e arg_nil)) (.inl rfl) rfl rfl) rfl ?_
      refine reg_quiet rfl (step_C tab_ok (fun K hk => hk)) ?_
      refine reg_quiet rfl (step_C tab_ok (fun K hk => hk)) ?_
      refine reg_quiet rfl (step_C tab_ok (fun K hk => hk)) ?_
      refine reg_quiet rfl (step_C tab_ok (fun K hk => hk)) ?_
      refine reg_new (step_C tab_ok (fun K hk => hk)) rfl ?_
      refine reg_new (step_C tab_ok (fun K hk => hk)) rfl ?_
      refine reg_store (store_row tab_ok rfl rfl rfl ⟨_, ⟨rfl, rfl, rfl⟩, rfl⟩ rfl) ?_
      refine reg_store (store_row tab_ok rfl rfl rfl ⟨_, ⟨rfl, rfl, rfl⟩, rfl⟩ rfl) ?_
      refine reg_quiet rfl (step_C tab_ok (fun K hk => hk)) ?_
      refine reg_nil ?_
      refine seq_n ?_
      refine wc_seq ?_
      refine wc_region ?_
      refine reg_quiet rfl (load_box tab_ok rfl rfl rfl rfl) ?_
      refine reg_new2 (call_new hF rfl rfl (arg_e arg_nil) (.inl rfl) rfl rfl) rfl ?_
      refine reg_quiet rfl (step_C tab_ok (fun K hk => hk)) ?_
      refine reg_quiet rfl (step_C tab_ok (fun K hk => hk)) ?_
      refine reg_quiet rfl (step_C tab_ok (fun K hk => hk)) ?_
      refine reg_new (step_C tab_ok (fun K hk => hk)) rfl ?_
      refine reg_store (store_row tab_ok rfl rfl rfl ⟨_, ⟨rfl, rfl, rfl⟩, rfl⟩ rfl) ?_
      refine reg_quiet rfl (step_C tab_ok (fun K hk => hk)) ?_
      refine reg_nil ?_
      refine seq_n ?_
      refine wc_seq ?_
      refine wc_region ?_
      refine reg_quiet rfl (load_box tab_ok rfl rfl rfl rfl) ?_
      refine reg_new2 (call_new hC rfl rfl (arg_e arg_nil) (.inl rfl) rfl rfl) rfl ?_
      refine reg_quiet rfl (step_C tab_ok (fun K hk => hk)) ?_
      refine reg_quiet rfl (step_C tab_ok (fun K hk => hk)) ?_
      refine reg_quiet rfl (step_C tab_ok (fun K hk => hk)) ?_
      refine reg_new (step_C tab_ok (fun K hk => hk)) rfl ?_
      refine reg_store (store_row tab_ok rfl rfl rfl ⟨_, ⟨rfl, rfl, rfl⟩, rfl⟩ rfl) ?_
      refine reg_quiet rfl (step_C tab_ok (fun K hk => hk)) ?_
      refine reg_nil ?_
      refine seq_n ?_
      refine wc_seq ?_
      refine wc_region ?_
      refine reg_quiet rfl (load_box tab_ok rfl rfl rfl rfl) ?_
      refine reg_quiet rfl (load_box tab_ok rfl rfl rfl rfl) ?_
      refine reg_new (build_list (enc := encOp) (s := 3) (xs := [⟨k, i, d⟩]) tab_ok rfl rfl rfl rfl rfl rfl rfl rfl rfl (fun _ => rfl) rfl) rfl ?_
      refine reg_do rfl (call_new hP rfl rfl (arg_e (arg_ownL rfl rfl arg_nil)) (.inr (play_plain _ _ _ _ _ _ _ _ _ _ _ _ _)) rfl rfl) rfl rfl ?_
      refine reg_quiet rfl (step_C tab_ok (fun K hk => hk)) ?_
      refine reg_quiet rfl (step_C tab_ok (fun K hk => hk)) ?_
      refine reg_quiet rfl (step_C tab_ok (fun K hk => hk)) ?_
      refine reg_quiet rfl (step_C tab_ok (fun K hk => hk)) ?_
      refine reg_new (step_C tab_ok (fun K hk => hk)) rfl ?_
      refine reg_store (store_row tab_ok rfl rfl rfl ⟨_, ⟨rfl, rfl, rfl⟩, rfl⟩ rfl) ?_
      refine reg_quiet rfl (step_C tab_ok (fun K hk => hk)) ?_
      refine reg_quiet rfl (step_C tab_ok (fun K hk => hk)) ?_
      refine reg_nil ?_
      refine seq_n ?_
      refine wc_seq ?_
      refine wc_region ?_
      refine reg_quiet rfl (load_box tab_ok rfl rfl rfl rfl) ?_
      refine reg_quiet rfl (load_box tab_ok rfl rfl rfl rfl) ?_
      refine reg_new (call_new hX rfl rfl (arg_e (arg_e arg_nil)) (.inl rfl) rfl rfl) rfl ?_
      refine reg_quiet rfl (step_C tab_ok (fun K hk => hk)) ?_
      refine reg_quiet rfl (step_C tab_ok (fun K hk => hk)) ?_
      refine reg_quiet rfl (step_C tab_ok (fun K hk => hk)) ?_
      refine reg_quiet rfl (step_C tab_ok (fun K hk => hk)) ?_
      refine reg_quiet rfl (step_C tab_ok (fun K hk => hk)) ?_
      refine reg_nil ?_
      refine seq_n ?_
      refine wc_seq ?_
      refine wc_region ?_
      refine reg_quiet rfl (load_box tab_ok rfl rfl rfl rfl) ?_
      refine reg_quiet rfl (load_box tab_ok rfl rfl rfl rfl) ?_
      refine reg_new (call_new hZ rfl rfl (arg_A rfl rfl rfl rfl (arg_e arg_nil)) (.inr (diff_plain _ _ _ _ _)) rfl rfl) rfl ?_
      refine reg_quiet rfl (step_C tab_ok (fun K hk => hk)) ?_
      refine reg_quiet rfl (step_C tab_ok (fun K hk => hk)) ?_
      refine reg_quiet rfl (step_C tab_ok (fun K hk => hk)) ?_
      refine reg_quiet rfl (step_C tab_ok (fun K hk => hk)) ?_
      refine reg_quiet rfl (step_C tab_ok (fun K hk => hk)) ?_
      refine reg_nil ?_
      refine seq_n ?_
      refine wc_seq ?_
      refine wc_seq ?_
      refine wc_region ?_
      refine reg_quiet rfl (load_box tab_ok rfl rfl rfl rfl) ?_
      refine reg_quiet rfl (call_r hK rfl rfl (arg_e arg_nil) (.inl rfl) (fun _ => rfl)) ?_
      refine reg_quiet rfl (step_C tab_ok (fun K hk => hk)) ?_
      refine reg_quiet rfl (step_C tab_ok (fun K hk => hk)) ?_
      refine reg_quiet rfl (step_C tab_ok (fun K hk => hk)) ?_
      refine reg_on rfl rfl rfl ?_
      refine reg_quiet rfl (step_C tab_ok (fun K hk => hk)) ?_
      refine reg_on rfl rfl rfl ?_
      refine reg_quiet rfl (step_C tab_ok (fun K hk => hk)) ?_
      refine reg_on rfl rfl rfl ?_
      refine reg_quiet rfl (step_C tab_ok (fun K hk => hk)) ?_
      refine reg_quiet rfl (pick_F tab_ok rfl rfl rfl) ?_
      refine reg_quiet rfl (step_C tab_ok (fun K hk => hk)) ?_
      refine reg_on rfl rfl rfl ?_
      refine reg_quiet rfl (step_C tab_ok (fun K hk => hk)) ?_
      refine reg_on rfl rfl rfl ?_
      refine reg_quiet rfl (step_C tab_ok (fun K hk => hk)) ?_
      refine reg_on rfl rfl rfl ?_
      refine reg_quiet rfl (step_C tab_ok (fun K hk => hk)) ?_
      refine reg_quiet rfl (pick_F tab_ok rfl rfl rfl) ?_
      refine reg_quiet rfl (step_C tab_ok (fun K hk => hk)) ?_
      refine reg_on rfl rfl rfl ?_
      refine reg_quiet rfl (step_C tab_ok (fun K hk => hk)) ?_
      refine reg_on rfl rfl rfl ?_
      refine reg_quiet rfl (step_C tab_ok (fun K hk => hk)) ?_
      refine reg_on rfl rfl rfl ?_
      refine reg_quiet rfl (step_C tab_ok (fun K hk => hk)) ?_
      refine reg_quiet rfl (pick_F tab_ok rfl rfl rfl) ?_
      refine reg_quiet rfl (step_C tab_ok (fun K hk => hk)) ?_
      refine reg_on rfl rfl rfl ?_
      refine reg_quiet rfl (step_C tab_ok (fun K hk => hk)) ?_
      refine reg_on rfl rfl rfl ?_
      refine reg_quiet rfl (step_C tab_ok (fun K hk => hk)) ?_
      refine reg_on rfl rfl rfl ?_
      refine reg_quiet rfl (step_C tab_ok (fun K hk => hk)) ?_
      refine reg_quiet rfl (pick_F tab_ok rfl rfl rfl) ?_
      refine reg_quiet rfl (step_C tab_ok (fun K hk => hk)) ?_
      refine reg_on rfl rfl rfl ?_
      refine reg_quiet rfl (step_C tab_ok (fun K hk => hk)) ?_
      refine reg_on rfl rfl rfl ?_
      refine reg_quiet rfl (step_C tab_ok (fun K hk => hk)) ?_
      refine reg_on rfl rfl rfl ?_
      refine reg_quiet rfl (step_C tab_ok (fun K hk => hk)) ?_
      refine reg_quiet rfl (pick_F tab_ok rfl rfl rfl) ?_
      refine reg_quiet rfl (step_C tab_ok (fun K hk => hk)) ?_
      refine reg_on rfl rfl rfl ?_
      refine reg_quiet rfl (step_C tab_ok (fun K hk => hk)) ?_
      refine reg_on rfl rfl rfl ?_
      refine reg_quiet rfl (step_C tab_ok (fun K hk => hk)) ?_
      refine reg_on rfl rfl rfl ?_
      refine reg_quiet rfl (step_C tab_ok (fun K hk => hk)) ?_
      refine reg_on rfl rfl rfl ?_
      refine reg_quiet rfl (step_C tab_ok (fun K hk => hk)) ?_
      refine reg_on rfl rfl rfl ?_
      refine reg_quiet rfl (step_C tab_ok (fun K hk => hk)) ?_
      refine reg_on rfl rfl rfl ?_
      refine reg_quiet rfl (step_C tab_ok (fun K hk => hk)) ?_
      refine reg_on rfl rfl rfl ?_
      refine reg_quiet rfl (load_box tab_ok rfl rfl ⟨_, rfl, rfl⟩ rfl) ?_
      refine reg_on rfl rfl rfl ?_
      refine reg_quiet rfl (len_arr tab_ok rfl rfl) ?_
      refine reg_on rfl rfl rfl ?_
      refine reg_quiet rfl (step_C tab_ok (fun K hk => hk)) ?_
      refine reg_on rfl rfl rfl ?_
      refine reg_quiet rfl (pick_T tab_ok rfl rfl rfl) ?_
      refine reg_on rfl rfl rfl ?_
      refine reg_quiet rfl (step_C tab_ok (fun K hk => hk)) ?_
      refine reg_quiet rfl (pick_F tab_ok rfl rfl rfl) ?_
      refine reg_quiet rfl (step_C tab_ok (fun K hk => hk)) ?_
      refine reg_on rfl rfl (by assumption) ?_
      refine reg_quiet rfl (step_C tab_ok (fun K hk => hk)) ?_
      refine reg_on rfl rfl (by assumption) ?_
      refine reg_quiet rfl (step_C tab_ok (fun K hk => hk)) ?_
      refine reg_on rfl rfl (by assumption) ?_
      refine reg_quiet rfl (step_C tab_ok (fun K hk => hk)) ?_
      refine reg_skip rfl rfl rfl rfl rfl ?_
      refine reg_skip rfl rfl rfl rfl rfl ?_
      refine reg_on rfl rfl (by assumption) ?_
      refine reg_quiet rfl (pick_F tab_ok rfl rfl rfl) ?_
      refine reg_quiet rfl (pick_F tab_ok rfl (by assumption) rfl) ?_
      refine reg_nil ?_
      refine seq_n ?_
      refine wc_false rfl rfl ?_
      refine wc_skip ?_
      refine seq_n ?_
      refine wc_seq ?_
      refine wc_seq ?_
      refine wc_region ?_
      refine reg_quiet rfl (step_C tab_ok (fun K hk => hk)) ?_
      refine reg_quiet rfl (step_C tab_ok (fun K hk => hk)) ?_
      refine reg_nil ?_
      refine seq_n ?_
      refine wc_true rfl rfl ?_
      refine wc_seq ?_
      refine wc_draw (by kernel_rfl) ?_
      refine dreg_q [19] [474] rfl (step_C tab_ok (fun K hk => hk)) ?_
      refine dreg_q [192] [474] rfl (len_own tab_ok rfl rfl) ?_
      refine dreg_q [193] [] rfl (step_C tab_ok (fun K hk => hk)) ?_
      refine dreg_q [194] [] rfl (step_C tab_ok (fun K hk => hk)) ?_
      refine dreg_onq [195, 19] [474] rfl rfl rfl rfl (step_C tab_ok (fun K hk => hk)) ?_
      refine dreg_onq [195, 196] [474] rfl rfl rfl rfl (index_own tab_ok rfl rfl rfl rfl rfl (by decide) (by decide)) ?_
      refine dreg_onq [195, 197] [474] rfl rfl rfl rfl (load_row (v := .d (encRes x)) tab_ok rfl rfl ⟨rfl, x, rfl, encRes x, rfl, rfl⟩ rfl) ?_
      refine dreg_onq [195, 12] [288] rfl rfl rfl rfl (load_box tab_ok rfl rfl rfl rfl) ?_
      refine dreg_onq [195, 198, 199] [] rfl rfl rfl rfl (eql_data rfl rfl rfl rfl (by kernel_rfl) (by decide) (res_eq _ _)) ?_
      refine dreg_q [195, 200] [] rfl (pick_T tab_ok rfl rfl rfl) ?_
      refine dreg_q [201] [] rfl (step_C tab_ok (fun K hk => hk)) ?_
      refine dreg_onq [202] [] rfl rfl (by assumption) rfl (call_r lives_is rfl rfl arg_nil (.inl rfl) (fun _ => rfl)) ?_
      refine dreg_q [202, 203] [] rfl (pick_T tab_ok rfl (by assumption) rfl) ?_
      refine dreg_q [204] [] rfl (step_C tab_ok (fun K hk => hk)) ?_
      refine dreg_end (by kernel_rfl) ?_
      refine seq_n ?_
      refine wc_ret ?_
      refine seq_r ?_
      exact ⟨trivial, [], .of rfl rfl rfl rfl rfl ⟨⟨_, rfl, AVLe.of_eq rfl⟩, rfl, trivial⟩ trivial⟩
    · have f2 : decide ((p.length : Int) = 1) = false := decide_eq_false (by omega)
      have f3 : (false != decide ((p.length : Int) = 1)) = false := by rw [f2]; rfl
      refine wc_seq ?_
      refine wc_region ?_
      refine reg_quiet rfl (step_C tab_ok (fun K hk => hk)) ?_
      refine reg_nil ?_
      refine seq_n ?_
      refine wc_seq ?_
      refine wc_seq ?_
      refine wc_region ?_
      refine reg_quiet rfl (step_C tab_ok (fun K hk => hk)) ?_
      refine reg_quiet rfl (load_box tab_ok rfl rfl ⟨_, rfl, rfl⟩ rfl) ?_
      refine reg_quiet rfl (len_arr tab_ok rfl rfl) ?_
      refine reg_quiet rfl (step_C tab_ok (fun K hk => hk)) ?_
      refine reg_quiet rfl (step_C tab_ok (fun K hk => hk)) ?_
      refine reg_on rfl rfl (by assumption) ?_
      refine reg_quiet rfl (step_C tab_ok (fun K hk => hk)) ?_
      refine reg_on rfl rfl (by assumption) ?_
      refine reg_quiet rfl (load_box tab_ok rfl rfl ⟨_, rfl, rfl⟩ rfl) ?_
      refine reg_on rfl rfl (by assumption) ?_
      refine reg_quiet rfl (len_arr tab_ok rfl rfl) ?_
      refine reg_on rfl rfl (by assumption) ?_
      refine reg_quiet rfl (step_C tab_ok (fun K hk => hk)) ?_
      refine reg_on rfl rfl (by assumption) ?_
      refine reg_quiet rfl (load_box tab_ok rfl rfl ⟨_, rfl, rfl⟩ rfl) ?_
      refine reg_on rfl rfl (by assumption) ?_
      refine reg_quiet rfl (len_arr tab_ok rfl rfl) ?_
      refine reg_on rfl rfl (by assumption) ?_
      refine reg_quiet rfl (step_C tab_ok (fun K hk => hk)) ?_
      refine reg_quiet rfl (pick_F tab_ok rfl (by assumption) rfl) ?_
      refine reg_nil ?_
      refine seq_n ?_
      refine wc_false rfl (by assumption) ?_
      refine wc_skip ?_
      refine seq_n ?_
      refine wc_seq ?_
      refine wc_draw (by kernel_rfl) ?_
      refine dreg_w [] [] rfl (make_full (enc := encBlock) (s := 32) (N := 1) tab_ok zeroBlock rfl rfl rfl rfl rfl rfl rfl (by decide) rfl) ?_
      refine dreg_w [] [] rfl (make_full (enc := encBlock) (s := 32) (N := 1) tab_ok zeroBlock rfl rfl rfl rfl rfl rfl rfl (by decide) rfl) ?_
      refine dreg_q [100, 101] [184, 192] rfl (build_struct tab_ok rfl rfl rfl rfl) ?_
      refine dreg_w [] [] rfl (step_C tab_ok (fun K hk => hk)) ?_
      refine dreg_s [10, 102] [208, 184, 192] (store_row tab_ok rfl rfl rfl ⟨_, ⟨rfl, rfl, rfl⟩, rfl⟩ rfl) ?_
      refine dreg_end (by kernel_rfl) ?_
      refine seq_n ?_
      refine wc_seq ?_
      refine wc_region ?_
      refine reg_quiet rfl (load_box tab_ok rfl rfl rfl rfl) ?_
      refine reg_quiet rfl (load_box tab_ok rfl rfl rfl rfl) ?_
      refine reg_new2 (call_new hD rfl rfl (arg_e (arg_e arg_nil)) (.inl rfl) rfl rfl) rfl ?_
      refine reg_quiet rfl (step_C tab_ok (fun K hk => hk)) ?_
      refine reg_quiet rfl (step_C tab_ok (fun K hk => hk)) ?_
      refine reg_quiet rfl (step_C tab_ok (fun K hk => hk)) ?_
      refine reg_quiet rfl (step_C tab_ok (fun K hk => hk)) ?_
      refine reg_new (step_C tab_ok (fun K hk => hk)) rfl ?_
      refine reg_new (step_C tab_ok (fun K hk => hk)) rfl ?_
      refine reg_store (store_row tab_ok rfl rfl rfl ⟨_, ⟨rfl, rfl, rfl⟩, rfl⟩ rfl) ?_
      refine reg_store (store_row tab_ok rfl rfl rfl ⟨_, ⟨rfl, rfl, rfl⟩, rfl⟩ rfl) ?_
      refine reg_quiet rfl (step_C tab_ok (fun K hk => hk)) ?_
      refine reg_nil ?_
      refine seq_n ?_
      refine wc_seq ?_
      refine wc_region ?_
      refine reg_quiet rfl (load_box tab_ok rfl rfl rfl rfl) ?_
      refine reg_new2 (call_new hF rfl rfl (arg_e arg_nil) (.inl rfl) rfl rfl) rfl ?_
      refine reg_quiet rfl (step_C tab_ok (fun K hk => hk)) ?_
      refine reg_quiet rfl (step_C tab_ok (fun K hk => hk)) ?_
      refine reg_quiet rfl (step_C tab_ok (fun K hk => hk)) ?_
      refine reg_new (step_C tab_ok (fun K hk => hk)) rfl ?_
      refine reg_store (store_row tab_ok rfl rfl rfl ⟨_, ⟨rfl, rfl, rfl⟩, rfl⟩ rfl) ?_
      refine reg_quiet rfl (step_C tab_ok (fun K hk => hk)) ?_
      refine reg_nil ?_
      refine seq_n ?_
      refine wc_seq ?_
      refine wc_region ?_
      refine reg_quiet rfl (load_box tab_ok rfl rfl rfl rfl) ?_
      refine reg_new2 (call_new hC rfl rfl (arg_e arg_nil) (.inl rfl) rfl rfl) rfl ?_
      refine reg_quiet rfl (step_C tab_ok (fun K hk => hk)) ?_
      refine reg_quiet rfl (step_C tab_ok (fun K hk => hk)) ?_
      refine reg_quiet rfl (step_C tab_ok (fun K hk => hk)) ?_
      refine reg_new (step_C tab_ok (fun K hk => hk)) rfl ?_
      refine reg_store (store_row tab_ok rfl rfl rfl ⟨_, ⟨rfl, rfl, rfl⟩, rfl⟩ rfl) ?_
      refine reg_quiet rfl (step_C tab_ok (fun K hk => hk)) ?_
      refine reg_nil ?_
      refine seq_n ?_
      refine wc_seq ?_
      refine wc_region ?_
      refine reg_quiet rfl (load_box tab_ok rfl rfl rfl rfl) ?_
      refine reg_quiet rfl (load_box tab_ok rfl rfl rfl rfl) ?_
      refine reg_new (build_list (enc := encOp) (s := 3) (xs := [⟨k, i, d⟩]) tab_ok rfl rfl rfl rfl rfl rfl rfl rfl rfl (fun _ => rfl) rfl) rfl ?_
      refine reg_do rfl (call_new hP rfl rfl (arg_e (arg_ownL rfl rfl arg_nil)) (.inr (play_plain _ _ _ _ _ _ _ _ _ _ _ _ _)) rfl rfl) rfl rfl ?_
      refine reg_quiet rfl (step_C tab_ok (fun K hk => hk)) ?_
      refine reg_quiet rfl (step_C tab_ok (fun K hk => hk)) ?_
      refine reg_quiet rfl (step_C tab_ok (fun K hk => hk)) ?_
      refine reg_quiet rfl (step_C tab_ok (fun K hk => hk)) ?_
      refine reg_new (step_C tab_ok (fun K hk => hk)) rfl ?_
      refine reg_store (store_row tab_ok rfl rfl rfl ⟨_, ⟨rfl, rfl, rfl⟩, rfl⟩ rfl) ?_
      refine reg_quiet rfl (step_C tab_ok (fun K hk => hk)) ?_
      refine reg_quiet rfl (step_C tab_ok (fun K hk => hk)) ?_
      refine reg_nil ?_
      refine seq_n ?_
      refine wc_seq ?_
      refine wc_region ?_
      refine reg_quiet rfl (load_box tab_ok rfl rfl rfl rfl) ?_
      refine reg_quiet rfl (load_box tab_ok rfl rfl rfl rfl) ?_
      refine reg_new (call_new hX rfl rfl (arg_e (arg_e arg_nil)) (.inl rfl) rfl rfl) rfl ?_
      refine reg_quiet rfl (step_C tab_ok (fun K hk => hk)) ?_
      refine reg_quiet rfl (step_C tab_ok (fun K hk => hk)) ?_
      refine reg_quiet rfl (step_C tab_ok (fun K hk => hk)) ?_
      refine reg_quiet rfl (step_C tab_ok (fun K hk => hk)) ?_
      refine reg_quiet rfl (step_C tab_ok (fun K hk => hk)) ?_
      refine reg_nil ?_
      refine seq_n ?_
      refine wc_seq ?_
      refine wc_region ?_
      refine reg_quiet rfl (load_box tab_ok rfl rfl rfl rfl) ?_
      refine reg_quiet rfl (load_box tab_ok rfl rfl rfl rfl) ?_
      refine reg_quiet rfl (call_r hZ rfl rfl (arg_A rfl rfl rfl rfl (arg_e arg_nil)) (.inr (errL_plain _)) (fun _ => rfl)) ?_
      refine reg_quiet rfl (step_C tab_ok (fun K hk => hk)) ?_
      refine reg_quiet rfl (step_C tab_ok (fun K hk => hk)) ?_
      refine reg_quiet rfl (step_C tab_ok (fun K hk => hk)) ?_
      refine reg_quiet rfl (step_C tab_ok (fun K hk => hk)) ?_
      refine reg_quiet rfl (step_C tab_ok (fun K hk => hk)) ?_
      refine reg_nil ?_
      refine seq_n ?_
      refine wc_seq ?_
      refine wc_seq ?_
      refine wc_region ?_
      refine reg_quiet rfl (load_box tab_ok rfl rfl rfl rfl) ?_
      refine reg_quiet rfl (call_r hK rfl rfl (arg_e arg_nil) (.inl rfl) (fun _ => rfl)) ?_
      refine reg_quiet rfl (step_C tab_ok (fun K hk => hk)) ?_
      refine reg_quiet rfl (step_C tab_ok (fun K hk => hk)) ?_
      refine reg_quiet rfl (step_C tab_ok (fun K hk => hk)) ?_
      refine reg_on rfl rfl rfl ?_
      refine reg_quiet rfl (step_C tab_ok (fun K hk => hk)) ?_
      refine reg_on rfl rfl rfl ?_
      refine reg_quiet rfl (step_C tab_ok (fun K hk => hk)) ?_
      refine reg_on rfl rfl rfl ?_
      refine reg_quiet rfl (step_C tab_ok (fun K hk => hk)) ?_
      refine reg_quiet rfl (pick_F tab_ok rfl rfl rfl) ?_
      refine reg_quiet rfl (step_C tab_ok (fun K hk => hk)) ?_
      refine reg_on rfl rfl rfl ?_
      refine reg_quiet rfl (step_C tab_ok (fun K hk => hk)) ?_
      refine reg_on rfl rfl rfl ?_
      refine reg_quiet rfl (step_C tab_ok (fun K hk => hk)) ?_
      refine reg_on rfl rfl rfl ?_
      refine reg_quiet rfl (step_C tab_ok (fun K hk => hk)) ?_
      refine reg_quiet rfl (pick_F tab_ok rfl rfl rfl) ?_
      refine reg_quiet rfl (step_C tab_ok (fun K hk => hk)) ?_
      refine reg_on rfl rfl rfl ?_
      refine reg_quiet rfl (step_C tab_ok (fun K hk => hk)) ?_
      refine reg_on rfl rfl rfl ?_
      refine reg_quiet rfl (step_C tab_ok (fun K hk => hk)) ?_
      refine reg_on rfl rfl rfl ?_
      refine reg_quiet rfl (step_C tab_ok (fun K hk => hk)) ?_
      refine reg_quiet rfl (pick_F tab_ok rfl rfl rfl) ?_
      refine reg_quiet rfl (step_C tab_ok (fun K hk => hk)) ?_
      refine reg_on rfl rfl rfl ?_
      refine reg_quiet rfl (step_C tab_ok (fun K hk => hk)) ?_
      refine reg_on rfl rfl rfl ?_
      refine reg_quiet rfl (step_C tab_ok (fun K hk => hk)) ?_
      refine reg_on rfl rfl rfl ?_
      refine reg_quiet rfl (step_C tab_ok (fun K hk => hk)) ?_
      refine reg_quiet rfl (pick_F tab_ok rfl rfl rfl) ?_
      refine reg_quiet rfl (step_C tab_ok (fun K hk => hk)) ?_
      refine reg_on rfl rfl rfl ?_
      refine reg_quiet rfl (step_C tab_ok (fun K hk => hk)) ?_
      refine reg_on rfl rfl rfl ?_
      refine reg_quiet rfl (step_C tab_ok (fun K hk => hk)) ?_
      refine reg_on rfl rfl rfl ?_
      refine reg_quiet rfl (step_C tab_ok (fun K hk => hk)) ?_
      refine reg_quiet rfl (pick_F tab_ok rfl rfl rfl) ?_
      refine reg_quiet rfl (step_C tab_ok (fun K hk => hk)) ?_
      refine reg_on rfl rfl rfl ?_
      refine reg_quiet rfl (step_C tab_ok (fun K hk => hk)) ?_
      refine reg_on rfl rfl rfl ?_
      refine reg_quiet rfl (step_C tab_ok (fun K hk => hk)) ?_
      refine reg_on rfl rfl rfl ?_
      refine reg_quiet rfl (step_C tab_ok (fun K hk => hk)) ?_
      refine reg_on rfl rfl rfl ?_
      refine reg_quiet rfl (step_C tab_ok (fun K hk => hk)) ?_
      refine reg_on rfl rfl rfl ?_
      refine reg_quiet rfl (step_C tab_ok (fun K hk => hk)) ?_
      refine reg_on rfl rfl rfl ?_
      refine reg_quiet rfl (step_C tab_ok (fun K hk => hk)) ?_
      refine reg_on rfl rfl rfl ?_
      refine reg_quiet rfl (load_box tab_ok rfl rfl ⟨_, rfl, rfl⟩ rfl) ?_
      refine reg_on rfl rfl rfl ?_
      refine reg_quiet rfl (len_arr tab_ok rfl rfl) ?_
      refine reg_on rfl rfl rfl ?_
      refine reg_quiet rfl (step_C tab_ok (fun K hk => hk)) ?_
      refine reg_on rfl rfl rfl ?_
      refine reg_quiet rfl (pick_T tab_ok rfl rfl rfl) ?_
      refine reg_on rfl rfl rfl ?_
      refine reg_quiet rfl (step_C tab_ok (fun K hk => hk)) ?_
      refine reg_quiet rfl (pick_F tab_ok rfl rfl rfl) ?_
      refine reg_quiet rfl (step_C tab_ok (fun K hk => hk)) ?_
      refine reg_on rfl rfl (by assumption) ?_
      refine reg_quiet rfl (step_C tab_ok (fun K hk => hk)) ?_
      refine reg_on rfl rfl (by assumption) ?_
      refine reg_quiet rfl (step_C tab_ok (fun K hk => hk)) ?_
      refine reg_on rfl rfl (by assumption) ?_
      refine reg_quiet rfl (step_C tab_ok (fun K hk => hk)) ?_
      refine reg_on rfl rfl rfl ?_
      refine reg_quiet rfl (step_C tab_ok (fun K hk => hk)) ?_
      refine reg_on rfl rfl rfl ?_
      refine reg_quiet rfl (step_C tab_ok (fun K hk => hk)) ?_
      refine reg_on rfl rfl (by assumption) ?_
      refine reg_quiet rfl (pick_T tab_ok rfl rfl rfl) ?_
      refine reg_quiet rfl (pick_F tab_ok rfl (by assumption) rfl) ?_
      refine reg_nil ?_
      refine seq_n ?_
      refine wc_false rfl rfl ?_
      refine wc_skip ?_
      refine seq_n ?_
      refine wc_seq ?_
      refine wc_seq ?_
      refine wc_region ?_
      refine reg_quiet rfl (step_C tab_ok (fun K hk => hk)) ?_
      refine reg_quiet rfl (step_C tab_ok (fun K hk => hk)) ?_
      refine reg_nil ?_
      refine seq_n ?_
      refine wc_true rfl rfl ?_
      refine wc_seq ?_
      refine wc_draw (by kernel_rfl) ?_
      refine dreg_q [19] [474] rfl (step_C tab_ok (fun K hk => hk)) ?_
      refine dreg_q [192] [474] rfl (len_own tab_ok rfl rfl) ?_
      refine dreg_q [193] [] rfl (step_C tab_ok (fun K hk => hk)) ?_
      refine dreg_q [194] [] rfl (step_C tab_ok (fun K hk => hk)) ?_
      refine dreg_onq [195, 19] [474] rfl rfl rfl rfl (step_C tab_ok (fun K hk => hk)) ?_
      refine dreg_onq [195, 196] [474] rfl rfl rfl rfl (index_own tab_ok rfl rfl rfl rfl rfl (by decide) (by decide)) ?_
      refine dreg_onq [195, 197] [474] rfl rfl rfl rfl (load_row (v := .d (encRes x)) tab_ok rfl rfl ⟨rfl, x, rfl, encRes x, rfl, rfl⟩ rfl) ?_
      refine dreg_onq [195, 12] [288] rfl rfl rfl rfl (load_box tab_ok rfl rfl rfl rfl) ?_
      refine dreg_onq [195, 198, 199] [] rfl rfl rfl rfl (eql_data rfl rfl rfl rfl (by kernel_rfl) (by decide) (res_eq _ _)) ?_
      refine dreg_q [195, 200] [] rfl (pick_T tab_ok rfl rfl rfl) ?_
      refine dreg_q [201] [] rfl (step_C tab_ok (fun K hk => hk)) ?_
      refine dreg_onq [202] [] rfl rfl (by assumption) rfl (call_r lives_is rfl rfl arg_nil (.inl rfl) (fun _ => rfl)) ?_
      refine dreg_q [202, 203] [] rfl (pick_T tab_ok rfl (by assumption) rfl) ?_
      refine dreg_q [204] [] rfl (step_C tab_ok (fun K hk => hk)) ?_
      refine dreg_end (by kernel_rfl) ?_
      refine seq_n ?_
      refine wc_ret ?_
      refine seq_r ?_
      exact ⟨trivial, [], .of rfl rfl rfl rfl rfl ⟨⟨_, rfl, AVLe.of_eq rfl⟩, rfl, trivial⟩ trivial⟩
  · refine wc_seq ?_
    refine wc_region ?_
    refine reg_quiet rfl (step_C tab_ok (fun K hk => hk)) ?_
    refine reg_new2 (call_new hN rfl rfl (arg_e arg_nil) (.inl rfl) rfl rfl) rfl ?_
    refine reg_quiet rfl (step_C tab_ok (fun K hk => hk)) ?_
    refine reg_quiet rfl (step_C tab_ok (fun K hk => hk)) ?_
    refine reg_quiet rfl (step_C tab_ok (fun K hk => hk)) ?_
    refine reg_new (step_C tab_ok (fun K hk => hk)) rfl ?_
    refine reg_store (store_row tab_ok rfl rfl rfl ⟨_, ⟨rfl, rfl, rfl⟩, rfl⟩ rfl) ?_
    refine reg_quiet rfl (step_C tab_ok (fun K hk => hk)) ?_
    refine reg_nil ?_
    refine seq_n ?_
    have hb' := Bool.or_eq_false_iff.mp hb
    have e1 : decide (n ≥ 1) = true := decide_eq_true (by have := of_decide_eq_false hb'.1; omega)
    have e2 : decide (n ≤ 4096) = true := decide_eq_true (by have := of_decide_eq_false hb'.2; omega)
    refine wc_mid (fun _ : Unit => ⟨[(3, .ptr 64 []), (4, .ptr 65 [])], [(64, some (.box 30 (.d (encA p q)))), (65, some (.box 47 (.d (encOp ⟨k, i, d⟩))))], 72, Try.f5.ntmps, 64⟩) (fun _ => True) ?_ ?_
    · have e3 : (true != decide (n ≤ 4096)) = false := by rw [e2]; rfl
      refine wc_seq ?_
      refine wc_draw (by kernel_rfl) ?_
      refine dreg_q [8] [] rfl (step_C tab_ok (fun K hk => hk)) ?_
      refine dreg_q [51] [] rfl (step_C tab_ok (fun K hk => hk)) ?_
      refine dreg_q [2] [] rfl (step_C tab_ok (fun K hk => hk)) ?_
      refine dreg_q [53] [] rfl (step_C tab_ok (fun K hk => hk)) ?_
      refine dreg_q [54] [] rfl (step_C tab_ok (fun K hk => hk)) ?_
      refine dreg_onq [55, 2] [] rfl rfl (by assumption) rfl (step_C tab_ok (fun K hk => hk)) ?_
      refine dreg_onq [55, 56] [] rfl rfl (by assumption) rfl (step_C tab_ok (fun K hk => hk)) ?_
      refine dreg_q [55, 57] [] rfl (pick_T tab_ok rfl (by assumption) rfl) ?_
      refine dreg_q [52, 58] [] rfl (step_C tab_ok (fun K hk => hk)) ?_
      refine dreg_q [59] [] rfl (step_C tab_ok (fun K hk => hk)) ?_
      refine dreg_onq [60, 8] [] rfl rfl (by assumption) rfl (step_C tab_ok (fun K hk => hk)) ?_
      refine dreg_onq [60, 61] [] rfl rfl (by assumption) rfl (step_C tab_ok (fun K hk => hk)) ?_
      refine dreg_onq [60, 62] [] rfl rfl (by assumption) rfl (step_C tab_ok (fun K hk => hk)) ?_
      refine dreg_offq [63, 8] rfl rfl rfl rfl ?_
      refine dreg_offq [63, 64] rfl rfl rfl rfl ?_
      refine dreg_offq [63, 65] rfl rfl rfl rfl ?_
      refine dreg_offUq [66, 7] rfl rfl rfl ?_
      refine dreg_offUq [66, 67] rfl rfl rfl ?_
      refine dreg_offUq [66, 68] rfl rfl rfl ?_
      refine dreg_offUq [66, 7] rfl rfl rfl ?_
      refine dreg_offUq [66, 70] rfl rfl rfl ?_
      refine dreg_offUq [66, 71] rfl rfl rfl ?_
      refine dreg_offUq [66, 69, 72] rfl rfl rfl ?_
      refine dreg_offUq [66, 73] rfl rfl rfl ?_
      refine dreg_offq [63, 66, 74] rfl rfl rfl rfl ?_
      refine dreg_onq [60, 63, 75] [] rfl rfl (by assumption) rfl (pick_F tab_ok rfl rfl rfl) ?_
      refine dreg_q [60, 76] [] rfl (pick_F tab_ok rfl (by assumption) rfl) ?_
      refine dreg_q [77] [] rfl (step_C tab_ok (fun K hk => hk)) ?_
      refine dreg_onq [78, 2] [] rfl rfl rfl rfl (step_C tab_ok (fun K hk => hk)) ?_
      refine dreg_onq [78, 4] [72] rfl rfl rfl rfl (load_box tab_ok rfl rfl rfl rfl) ?_
      refine dreg_onq [78, 79, 80] [] rfl rfl rfl rfl (call_r hB1 rfl rfl (arg_e (arg_e arg_nil)) (.inl rfl) (fun _ => rfl)) ?_
      refine dreg_onq [78, 2] [] rfl rfl rfl rfl (step_C tab_ok (fun K hk => hk)) ?_
      refine dreg_onq [78, 4] [72] rfl rfl rfl rfl (load_box tab_ok rfl rfl rfl rfl) ?_
      refine dreg_onq [78, 82, 83] [] rfl rfl rfl rfl (call_r hB2 rfl rfl (arg_e (arg_e arg_nil)) (.inl rfl) (fun _ => rfl)) ?_
      refine dreg_onq [78, 81, 84] [] rfl rfl rfl rfl (step_C tab_ok (fun K hk => hk)) ?_
      refine dreg_q [78, 85] [] rfl (pick_F tab_ok rfl rfl rfl) ?_
      refine dreg_end (by kernel_rfl) ?_
      refine seq_n ?_
      refine wc_false rfl (by assumption) ?_
      refine wc_skip ?_
      refine mid_n () [(64, some 64), (65, some 72)] trivial ?_
      exact .of rfl rfl rfl rfl rfl ⟨⟨_, rfl, .refl _⟩, rfl, ⟨_, rfl, .refl _⟩, rfl, trivial⟩ ⟨⟨rfl, rfl, _, rfl, .refl _⟩, ⟨rfl, rfl, _, rfl, .refl _⟩, trivial⟩
    intro _ _
    refine wc_of ?_
    have f0 : decide ((p.length : Int) = 0) = false := decide_eq_false (by omega)
    have f1 : (!decide ((p.length : Int) = (q.length : Int))) = false := by rw [decide_eq_true (by omega)]; rfl
    have fx : decide (x = x) = true := by simp
    rcases hZZ with ⟨hz, m2, dl2, hZ⟩ | ⟨hz, hZ⟩
    · have f2 : decide ((p.length : Int) = 1) = true := decide_eq_true (by omega)
      have f3 : (true != decide ((p.length : Int) = 1)) = false := by rw [f2]; rfl
      refine wc_seq ?_
      refine wc_region ?_
      refine reg_quiet rfl (step_C tab_ok (fun K hk => hk)) ?_
      refine reg_nil ?_
      refine seq_n ?_
      refine wc_seq ?_
      refine wc_seq ?_
      refine wc_region ?_
      refine reg_quiet rfl (step_C tab_ok (fun K hk => hk)) ?_
      refine reg_quiet rfl (load_box tab_ok rfl rfl ⟨_, rfl, rfl⟩ rfl) ?_
      refine reg_quiet rfl (len_arr tab_ok rfl rfl) ?_
      refine reg_quiet rfl (step_C tab_ok (fun K hk => hk)) ?_
      refine reg_quiet rfl (step_C tab_ok (fun K hk => hk)) ?_
      refine reg_on rfl rfl (by assumption) ?_
      refine reg_quiet rfl (step_C tab_ok (fun K hk => hk)) ?_
      refine reg_on rfl rfl (by assumption) ?_
      refine reg_quiet rfl (load_box tab_ok rfl rfl ⟨_, rfl, rfl⟩ rfl) ?_
      refine reg_on rfl rfl (by assumption) ?_
      refine reg_quiet rfl (len_arr tab_ok rfl rfl) ?_
      refine reg_on rfl rfl (by assumption) ?_
      refine reg_quiet rfl (step_C tab_ok (fun K hk => hk)) ?_
      refine reg_on rfl rfl (by assumption) ?_
      refine reg_quiet rfl (load_box tab_ok rfl rfl ⟨_, rfl, rfl⟩ rfl) ?_
      refine reg_on rfl rfl (by assumption) ?_
      refine reg_quiet rfl (len_arr tab_ok rfl rfl) ?_
      refine reg_on rfl rfl (by assumption) ?_
      refine reg_quiet rfl (step_C tab_ok (fun K hk => hk)) ?_
      refine reg_quiet rfl (pick_F tab_ok rfl (by assumption) rfl) ?_
      refine reg_nil ?_
      refine seq_n ?_
      refine wc_false rfl (by assumption) ?_
      refine wc_skip ?_
      refine seq_n ?_
      refine wc_seq ?_
      refine wc_draw (by kernel_rfl) ?_
      refine dreg_w [] [] rfl (make_full (enc := encBlock) (s := 32) (N := 1) tab_ok zeroBlock rfl rfl rfl rfl rfl rfl rfl (by decide) rfl) ?_
      refine dreg_w [] [] rfl (make_full (enc := encBlock) (s := 32) (N := 1) tab_ok zeroBlock rfl rfl rfl rfl rfl rfl rfl (by decide) rfl) ?_
      refine dreg_q [100, 101] [184, 192] rfl (build_struct tab_ok rfl rfl rfl rfl) ?_
      refine dreg_w [] [] rfl (step_C tab_ok (fun K hk => hk)) ?_
      refine dreg_s [10, 102] [208, 184, 192] (store_row tab_ok rfl rfl rfl ⟨_, ⟨rfl, rfl, rfl⟩, rfl⟩ rfl) ?_
      refine dreg_end (by kernel_rfl) ?_
      refine seq_n ?_
      refine wc_seq ?_
      refine wc_region ?_
      refine reg_quiet rfl (load_box tab_ok rfl rfl rfl rfl) ?_
      refine reg_quiet rfl (load_box tab_ok rfl rfl rfl rfl) ?_
      refine reg_new2 (call_new hD rfl rfl (arg_e (arg_e arg_nil)) (.inl rfl) rfl rfl) rfl ?_
      refine reg_quiet rfl (step_C tab_ok (fun K hk => hk)) ?_
      refine reg_quiet rfl (step_C tab_ok (fun K hk => hk)) ?_
      refine reg_quiet rfl (step_C tab_ok (fun K hk => hk)) ?_
      refine reg_quiet rfl (step_C tab_ok (fun K hk => hk)) ?_
      refine reg_new (step_C tab_ok (fun K hk => hk)) rfl ?_
      refine reg_new (step_C tab_ok (fun K hk => hk)) rfl ?_
      refine reg_store (store_row tab_ok rfl rfl rfl ⟨_, ⟨rfl, rfl, rfl⟩, rfl⟩ rfl) ?_
      refine reg_store (store_row tab_ok rfl rfl rfl ⟨_, ⟨rfl, rfl, rfl⟩, rfl⟩ rfl) ?_
      refine reg_quiet rfl (step_C tab_ok (fun K hk => hk)) ?_
      refine reg_nil ?_
      refine seq_n ?_
      refine wc_seq ?_
      refine wc_region ?_
      refine reg_quiet rfl (load_box tab_ok rfl rfl rfl rfl) ?_
      refine reg_new2 (call_new hF rfl rfl (arg_e arg_nil) (.inl rfl) rfl rfl) rfl ?_
      refine reg_quiet rfl (step_C tab_ok (fun K hk => hk)) ?_
      refine reg_quiet rfl (step_C tab_ok (fun K hk => hk)) ?_
      refine reg_quiet rfl (step_C tab_ok (fun K hk => hk)) ?_
      refine reg_new (step_C tab_ok (fun K hk => hk)) rfl ?_
      refine reg_store (store_row tab_ok rfl rfl rfl ⟨_, ⟨rfl, rfl, rfl⟩, rfl⟩ rfl) ?_
      refine reg_quiet rfl (step_C tab_ok (fun K hk => hk)) ?_
      refine reg_nil ?_
      refine seq_n ?_
      refine wc_seq ?_
      refine wc_region ?_
      refine reg_quiet rfl (load_box tab_ok rfl rfl rfl rfl) ?_
      refine reg_new2 (call_new hC rfl rfl (arg_e arg_nil) (.inl rfl) rfl rfl) rfl ?_
      refine reg_quiet rfl (step_C tab_ok (fun K hk => hk)) ?_
      refine reg_quiet rfl (step_C tab_ok (fun K hk => hk)) ?_
      refine reg_quiet rfl (step_C tab_ok (fun K hk => hk)) ?_
      refine reg_new (step_C tab_ok (fun K hk => hk)) rfl ?_
      refine reg_store (store_row tab_ok rfl rfl rfl ⟨_, ⟨rfl, rfl, rfl⟩, rfl⟩ rfl) ?_
      refine reg_quiet rfl (step_C tab_ok (fun K hk => hk)) ?_
      refine reg_nil ?_
      refine seq_n ?_
      refine wc_seq ?_
      refine wc_region ?_
      refine reg_quiet rfl (load_box tab_ok rfl rfl rfl rfl) ?_
      refine reg_quiet rfl (load_box tab_ok rfl rfl rfl rfl) ?_
      refine reg_new (build_list (enc := encOp) (s := 3) (xs := [⟨k, i, d⟩]) tab_ok rfl rfl rfl rfl rfl rfl rfl rfl rfl (fun _ => rfl) rfl) rfl ?_
      refine reg_do rfl (call_new hP rfl rfl (arg_e (arg_ownL rfl rfl arg_nil)) (.inr (play_plain _ _ _ _ _ _ _ _ _ _ _ _ _)) rfl rfl) rfl rfl ?_
      refine reg_quiet rfl (step_C tab_ok (fun K hk => hk)) ?_
      refine reg_quiet rfl (step_C tab_ok (fun K hk => hk)) ?_
      refine reg_quiet rfl (step_C tab_ok (fun K hk => hk)) ?_
      refine reg_quiet rfl (step_C tab_ok (fun K hk => hk)) ?_
      refine reg_new (step_C tab_ok (fun K hk => hk)) rfl ?_
      refine reg_store (store_row tab_ok rfl rfl rfl ⟨_, ⟨rfl, rfl, rfl⟩, rfl⟩ rfl) ?_
      refine reg_quiet rfl (step_C tab_ok (fun K hk => hk)) ?_
      refine reg_quiet rfl (step_C tab_ok (fun K hk => hk)) ?_
      refine reg_nil ?_
      refine seq_n ?_
      refine wc_seq ?_
      refine wc_region ?_
      refine reg_quiet rfl (load_box tab_ok rfl rfl rfl rfl) ?_
      refine reg_quiet rfl (load_box tab_ok rfl rfl rfl rfl) ?_
      refine reg_new (call_new hX rfl rfl (arg_e (arg_e arg_nil)) (.inl rfl) rfl rfl) rfl ?_
      refine reg_quiet rfl (step_C tab_ok (fun K hk => hk)) ?_
      refine reg_quiet rfl (step_C tab_ok (fun K hk => hk)) ?_
      refine reg_quiet rfl (step_C tab_ok (fun K hk => hk)) ?_
      refine reg_quiet rfl (step_C tab_ok (fun K hk => hk)) ?_
      refine reg_quiet rfl (step_C tab_ok (fun K hk => hk)) ?_
      refine reg_nil ?_
      refine seq_n ?_
      refine wc_seq ?_
      refine wc_region ?_
      refine reg_quiet rfl (load_box tab_ok rfl rfl rfl rfl) ?_
      refine reg_quiet rfl (load_box tab_ok rfl rfl rfl rfl) ?_
      refine reg_new (call_new hZ rfl rfl (arg_A rfl rfl rfl rfl (arg_e arg_nil)) (.inr (diff_plain _ _ _ _ _)) rfl rfl) rfl ?_
      refine reg_quiet rfl (step_C tab_ok (fun K hk => hk)) ?_
      refine reg_quiet rfl (step_C tab_ok (fun K hk => hk)) ?_
      refine reg_quiet rfl (step_C tab_ok (fun K hk => hk)) ?_
      refine reg_quiet rfl (step_C tab_ok (fun K hk => hk)) ?_
      refine reg_quiet rfl (step_C tab_ok (fun K hk => hk)) ?_
      refine reg_nil ?_
      refine seq_n ?_
      refine wc_seq ?_
      refine wc_seq ?_
      refine wc_region ?_
      refine reg_quiet rfl (load_box tab_ok rfl rfl rfl rfl) ?_
      refine reg_quiet rfl (call_r hK rfl rfl (arg_e arg_nil) (.inl rfl) (fun _ => rfl)) ?_
      refine reg_quiet rfl (step_C tab_ok (fun K hk => hk)) ?_
      refine reg_quiet rfl (step_C tab_ok (fun K hk => hk)) ?_
      refine reg_quiet rfl (step_C tab_ok (fun K hk => hk)) ?_
      refine reg_on rfl rfl rfl ?_
      refine reg_quiet rfl (step_C tab_ok (fun K hk => hk)) ?_
      refine reg_on rfl rfl rfl ?_
      refine reg_quiet rfl (step_C tab_ok (fun K hk => hk)) ?_
      refine reg_on rfl rfl rfl ?_
      refine reg_quiet rfl (step_C tab_ok (fun K hk => hk)) ?_
      refine reg_quiet rfl (pick_F tab_ok rfl rfl rfl) ?_
      refine reg_quiet rfl (step_C tab_ok (fun K hk => hk)) ?_
      refine reg_on rfl rfl rfl ?_
      refine reg_quiet rfl (step_C tab_ok (fun K hk => hk)) ?_
      refine reg_on rfl rfl rfl ?_
      refine reg_quiet rfl (step_C tab_ok (fun K hk => hk)) ?_
      refine reg_on rfl rfl rfl ?_
      refine reg_quiet rfl (step_C tab_ok (fun K hk => hk)) ?_
      refine reg_quiet rfl (pick_F tab_ok rfl rfl rfl) ?_
      refine reg_quiet rfl (step_C tab_ok (fun K hk => hk)) ?_
      refine reg_on rfl rfl rfl ?_
      refine reg_quiet rfl (step_C tab_ok (fun K hk => hk)) ?_
      refine reg_on rfl rfl rfl ?_
      refine reg_quiet rfl (step_C tab_ok (fun K hk => hk)) ?_
      refine reg_on rfl rfl rfl ?_
      refine reg_quiet rfl (step_C tab_ok (fun K hk => hk)) ?_
      refine reg_quiet rfl (pick_F tab_ok rfl rfl rfl) ?_
      refine reg_quiet rfl (step_C tab_ok (fun K hk => hk)) ?_
      refine reg_on rfl rfl rfl ?_
      refine reg_quiet rfl (step_C tab_ok (fun K hk => hk)) ?_
      refine reg_on rfl rfl rfl ?_
      refine reg_quiet rfl (step_C tab_ok (fun K hk => hk)) ?_
      refine reg_on rfl rfl rfl ?_
      refine reg_quiet rfl (step_C tab_ok (fun K hk => hk)) ?_
      refine reg_quiet rfl (pick_F tab_ok rfl rfl rfl) ?_
      refine reg_quiet rfl (step_C tab_ok (fun K hk => hk)) ?_
      refine reg_on rfl rfl rfl ?_
      refine reg_quiet rfl (step_C tab_ok (fun K hk => hk)) ?_
      refine reg_on rfl rfl rfl ?_
      refine reg_quiet rfl (step_C tab_ok (fun K hk => hk)) ?_
      refine reg_on rfl rfl rfl ?_
      refine reg_quiet rfl (step_C tab_ok (fun K hk => hk)) ?_
      refine reg_quiet rfl (pick_F tab_ok rfl rfl rfl) ?_
      refine reg_quiet rfl (step_C tab_ok (fun K hk => hk)) ?_
      refine reg_on rfl rfl rfl ?_
      refine reg_quiet rfl (step_C tab_ok (fun K hk => hk)) ?_
      refine reg_on rfl rfl rfl ?_
      refine reg_quiet rfl (step_C tab_ok (fun K hk => hk)) ?_
      refine reg_on rfl rfl rfl ?_
      refine reg_quiet rfl (step_C tab_ok (fun K hk => hk)) ?_
      refine reg_on rfl rfl rfl ?_
      refine reg_quiet rfl (step_C tab_ok (fun K hk => hk)) ?_
      refine reg_on rfl rfl rfl ?_
      refine reg_quiet rfl (step_C tab_ok (fun K hk => hk)) ?_
      refine reg_on rfl rfl rfl ?_
      refine reg_quiet rfl (step_C tab_ok (fun K hk => hk)) ?_
      refine reg_on rfl rfl rfl ?_
      refine reg_quiet rfl (load_box tab_ok rfl rfl ⟨_, rfl, rfl⟩ rfl) ?_
      refine reg_on rfl rfl rfl ?_
      refine reg_quiet rfl (len_arr tab_ok rfl rfl) ?_
      refine reg_on rfl rfl rfl ?_
      refine reg_quiet rfl (step_C tab_ok (fun K hk => hk)) ?_
      refine reg_on rfl rfl rfl ?_
      refine reg_quiet rfl (pick_T tab_ok rfl rfl rfl) ?_
      refine reg_on rfl rfl rfl ?_
      refine reg_quiet rfl (step_C tab_ok (fun K hk => hk)) ?_
      refine reg_quiet rfl (pick_F tab_ok rfl rfl rfl) ?_
      refine reg_quiet rfl (step_C tab_ok (fun K hk => hk)) ?_
      refine reg_on rfl rfl (by assumption) ?_
      refine reg_quiet rfl (step_C tab_ok (fun K hk => hk)) ?_
      refine reg_on rfl rfl (by assumption) ?_
      refine reg_quiet rfl (step_C tab_ok (fun K hk => hk)) ?_
      refine reg_on rfl rfl (by assumption) ?_
      refine reg_quiet rfl (step_C tab_ok (fun K hk => hk)) ?_
      refine reg_skip rfl rfl rfl rfl rfl ?_
      refine reg_skip rfl rfl rfl rfl rfl ?_
      refine reg_on rfl rfl (by assumption) ?_
      refine reg_quiet rfl (pick_F tab_ok rfl rfl rfl) ?_
      refine reg_quiet rfl (pick_F tab_ok rfl (by assumption) rfl) ?_
      refine reg_nil ?_
      refine seq_n ?_
      refine wc_false rfl rfl ?_
      refine wc_skip ?_
      refine seq_n ?_
      refine wc_seq ?_
      refine wc_seq ?_
      refine wc_region ?_
      refine reg_quiet rfl (step_C tab_ok (fun K hk => hk)) ?_
      refine reg_quiet rfl (step_C tab_ok (fun K hk => hk)) ?_
      refine reg_nil ?_
      refine seq_n ?_
      refine wc_true rfl rfl ?_
      refine wc_seq ?_
      refine wc_draw (by kernel_rfl) ?_
      refine dreg_q [19] [474] rfl (step_C tab_ok (fun K hk => hk)) ?_
      refine dreg_q [192] [474] rfl (len_own tab_ok rfl rfl) ?_
      refine dreg_q [193] [] rfl (step_C tab_ok (fun K hk => hk)) ?_
      refine dreg_q [194] [] rfl (step_C tab_ok (fun K hk => hk)) ?_
      refine dreg_onq [195, 19] [474] rfl rfl rfl rfl (step_C tab_ok (fun K hk => hk)) ?_
      refine dreg_onq [195, 196] [474] rfl rfl rfl rfl (index_own tab_ok rfl rfl rfl rfl rfl (by decide) (by decide)) ?_
      refine dreg_onq [195, 197] [474] rfl rfl rfl rfl (load_row (v := .d (encRes x)) tab_ok rfl rfl ⟨rfl, x, rfl, encRes x, rfl, rfl⟩ rfl) ?_
      refine dreg_onq [195, 12] [288] rfl rfl rfl rfl (load_box tab_ok rfl rfl rfl rfl) ?_
      refine dreg_onq [195, 198, 199] [] rfl rfl rfl rfl (eql_data rfl rfl rfl rfl (by kernel_rfl) (by decide) (res_eq _ _)) ?_
      refine dreg_q [195, 200] [] rfl (pick_T tab_ok rfl rfl rfl) ?_
      refine dreg_q [201] [] rfl (step_C tab_ok (fun K hk => hk)) ?_
      refine dreg_onq [202] [] rfl rfl (by assumption) rfl (call_r lives_is rfl rfl arg_nil (.inl rfl) (fun _ => rfl)) ?_
      refine dreg_q [202, 203] [] rfl (pick_T tab_ok rfl (by assumption) rfl) ?_
      refine dreg_q [204] [] rfl (step_C tab_ok (fun K hk => hk)) ?_
      refine dreg_end (by kernel_rfl) ?_
      refine seq_n ?_
      refine wc_ret ?_
      refine seq_r ?_
      exact ⟨trivial, [], .of rfl rfl rfl rfl rfl ⟨⟨_, rfl, AVLe.of_eq rfl⟩, rfl, trivial⟩ trivial⟩
    · have f2 : decide ((p.length : Int) = 1) = false := decide_eq_false (by omega)
      have f3 : (false != decide ((p.length : Int) = 1)) = false := by rw [f2]; rfl
      refine wc_seq ?_
      refine wc_region ?_
      refine reg_quiet rfl (step_C tab_ok (fun K hk => hk)) ?_
      refine reg_nil ?_
      refine seq_n ?_
      refine wc_seq ?_
      refine wc_seq ?_
      refine wc_region ?_
      refine reg_quiet rfl (step_C tab_ok (fun K hk => hk)) ?_
      refine reg_quiet rfl (load_box tab_ok rfl rfl ⟨_, rfl, rfl⟩ rfl) ?_
      refine reg_quiet rfl (len_arr tab_ok rfl rfl) ?_
      refine reg_quiet rfl (step_C tab_ok (fun K hk => hk)) ?_
      refine reg_quiet rfl (step_C tab_ok (fun K hk => hk)) ?_
      refine reg_on rfl rfl (by assumption) ?_
      refine reg_quiet rfl (step_C tab_ok (fun K hk => hk)) ?_
      refine reg_on rfl rfl (by assumption) ?_
      refine reg_quiet rfl (load_box tab_ok rfl rfl ⟨_, rfl, rfl⟩ rfl) ?_
      refine reg_on rfl rfl (by assumption) ?_
      refine reg_quiet rfl (len_arr tab_ok rfl rfl) ?_
      refine reg_on rfl rfl (by assumption) ?_
      refine reg_quiet rfl (step_C tab_ok (fun K hk => hk)) ?_
      refine reg_on rfl rfl (by assumption) ?_
      refine reg_quiet rfl (load_box tab_ok rfl rfl ⟨_, rfl, rfl⟩ rfl) ?_
      refine reg_on rfl rfl (by assumption) ?_
      refine reg_quiet rfl (len_arr tab_ok rfl rfl) ?_
      refine reg_on rfl rfl (by assumption) ?_
      refine reg_quiet rfl (step_C tab_ok (fun K hk => hk)) ?_
      refine reg_quiet rfl (pick_F tab_ok rfl (by assumption) rfl) ?_
      refine reg_nil ?_
      refine seq_n ?_
      refine wc_false rfl (by assumption) ?_
      refine wc_skip ?_
      refine seq_n ?_
      refine wc_seq ?_
      refine wc_draw (by kernel_rfl) ?_
      refine dreg_w [] [] rfl (make_full (enc := encBlock) (s := 32) (N := 1) tab_ok zeroBlock rfl rfl rfl rfl rfl rfl rfl (by decide) rfl) ?_
      refine dreg_w [] [] rfl (make_full (enc := encBlock) (s := 32) (N := 1) tab_ok zeroBlock rfl rfl rfl rfl rfl rfl rfl (by decide) rfl) ?_
      refine dreg_q [100, 101] [184, 192] rfl (build_struct tab_ok rfl rfl rfl rfl) ?_
      refine dreg_w [] [] rfl (step_C tab_ok (fun K hk => hk)) ?_
      refine dreg_s [10, 102] [208, 184, 192] (store_row tab_ok rfl rfl rfl ⟨_, ⟨rfl, rfl, rfl⟩, rfl⟩ rfl) ?_
      refine dreg_end (by kernel_rfl) ?_
      refine seq_n ?_
      refine wc_seq ?_
      refine wc_region ?_
      refine reg_quiet rfl (load_box tab_ok rfl rfl rfl rfl) ?_
      refine reg_quiet rfl (load_box tab_ok rfl rfl rfl rfl) ?_
      refine reg_new2 (call_new hD rfl rfl (arg_e (arg_e arg_nil)) (.inl rfl) rfl rfl) rfl ?_
      refine reg_quiet rfl (step_C tab_ok (fun K hk => hk)) ?_
      refine reg_quiet rfl (step_C tab_ok (fun K hk => hk)) ?_
      refine reg_quiet rfl (step_C tab_ok (fun K hk => hk)) ?_
      refine reg_quiet rfl (step_C tab_ok (fun K hk => hk)) ?_
      refine reg_new (step_C tab_ok (fun K hk => hk)) rfl ?_
      refine reg_new (step_C tab_ok (fun K hk => hk)) rfl ?_
      refine reg_store (store_row tab_ok rfl rfl rfl ⟨_, ⟨rfl, rfl, rfl⟩, rfl⟩ rfl) ?_
      refine reg_store (store_row tab_ok rfl rfl rfl ⟨_, ⟨rfl, rfl, rfl⟩, rfl⟩ rfl) ?_
      refine reg_quiet rfl (step_C tab_ok (fun K hk => hk)) ?_
      refine reg_nil ?_
      refine seq_n ?_
      refine wc_seq ?_
      refine wc_region ?_
      refine reg_quiet rfl (load_box tab_ok rfl rfl rfl rfl) ?_
      refine reg_new2 (call_new hF rfl rfl (arg_e arg_nil) (.inl rfl) rfl rfl) rfl ?_
      refine reg_quiet rfl (step_C tab_ok (fun K hk => hk)) ?_
      refine reg_quiet rfl (step_C tab_ok (fun K hk => hk)) ?_
      refine reg_quiet rfl (step_C tab_ok (fun K hk => hk)) ?_
      refine reg_new (step_C tab_ok (fun K hk => hk)) rfl ?_
      refine reg_store (store_row tab_ok rfl rfl rfl ⟨_, ⟨rfl, rfl, rfl⟩, rfl⟩ rfl) ?_
      refine reg_quiet rfl (step_C tab_ok (fun K hk => hk)) ?_
      refine reg_nil ?_
      refine seq_n ?_
      refine wc_seq ?_
      refine wc_region ?_
      refine reg_quiet rfl (load_box tab_ok rfl rfl rfl rfl) ?_
      refine reg_new2 (call_new hC rfl rfl (arg_e arg_nil) (.inl rfl) rfl rfl) rfl ?_
      refine reg_quiet rfl (step_C tab_ok (fun K hk => hk)) ?_
      refine reg_quiet rfl (step_C tab_ok (fun K hk => hk)) ?_
      refine reg_quiet rfl (step_C tab_ok (fun K hk => hk)) ?_
      refine reg_new (step_C tab_ok (fun K hk => hk)) rfl ?_
      refine reg_store (store_row tab_ok rfl rfl rfl ⟨_, ⟨rfl, rfl, rfl⟩, rfl⟩ rfl) ?_
      refine reg_quiet rfl (step_C tab_ok (fun K hk => hk)) ?_
      refine reg_nil ?_
      refine seq_n ?_
      refine wc_seq ?_
      refine wc_region ?_
      refine reg_quiet rfl (load_box tab_ok rfl rfl rfl rfl) ?_
      refine reg_quiet rfl (load_box tab_ok rfl rfl rfl rfl) ?_
      refine reg_new (build_list (enc := encOp) (s := 3) (xs := [⟨k, i, d⟩]) tab_ok rfl rfl rfl rfl rfl rfl rfl rfl rfl (fun _ => rfl) rfl) rfl ?_
      refine reg_do rfl (call_new hP rfl rfl (arg_e (arg_ownL rfl rfl arg_nil)) (.inr (play_plain _ _ _ _ _ _ _ _ _ _ _ _ _)) rfl rfl) rfl rfl ?_
      refine reg_quiet rfl (step_C tab_ok (fun K hk => hk)) ?_
      refine reg_quiet rfl (step_C tab_ok (fun K hk => hk)) ?_
      refine reg_quiet rfl (step_C tab_ok (fun K hk => hk)) ?_
      refine reg_quiet rfl (step_C tab_ok (fun K hk => hk)) ?_
      refine reg_new (step_C tab_ok (fun K hk => hk)) rfl ?_
      refine reg_store (store_row tab_ok rfl rfl rfl ⟨_, ⟨rfl, rfl, rfl⟩, rfl⟩ rfl) ?_
      refine reg_quiet rfl (step_C tab_ok (fun K hk => hk)) ?_
      refine reg_quiet rfl (step_C tab_ok (fun K hk => hk)) ?_
      refine reg_nil ?_
      refine seq_n ?_
      refine wc_seq ?_
      refine wc_region ?_
      refine reg_quiet rfl (load_box tab_ok rfl rfl rfl rfl) ?_
      refine reg_quiet rfl (load_box tab_ok rfl rfl rfl rfl) ?_
      refine reg_new (call_new hX rfl rfl (arg_e (arg_e arg_nil)) (.inl rfl) rfl rfl) rfl ?_
      refine reg_quiet rfl (step_C tab_ok (fun K hk => hk)) ?_
      refine reg_quiet rfl (step_C tab_ok (fun K hk => hk)) ?_
      refine reg_quiet rfl (step_C tab_ok (fun K hk => hk)) ?_
      refine reg_quiet rfl (step_C tab_ok (fun K hk => hk)) ?_
      refine reg_quiet rfl (step_C tab_ok (fun K hk => hk)) ?_
      refine reg_nil ?_
      refine seq_n ?_
      refine wc_seq ?_
      refine wc_region ?_
      refine reg_quiet rfl (load_box tab_ok rfl rfl rfl rfl) ?_
      refine reg_quiet rfl (load_box tab_ok rfl rfl rfl rfl) ?_
      refine reg_quiet rfl (call_r hZ rfl rfl (arg_A rfl rfl rfl rfl (arg_e arg_nil)) (.inr (errL_plain _)) (fun _ => rfl)) ?_
      refine reg_quiet rfl (step_C tab_ok (fun K hk => hk)) ?_
      refine reg_quiet rfl (step_C tab_ok (fun K hk => hk)) ?_
      refine reg_quiet rfl (step_C tab_ok (fun K hk => hk)) ?_
      refine reg_quiet rfl (step_C tab_ok (fun K hk => hk)) ?_
      refine reg_quiet rfl (step_C tab_ok (fun K hk => hk)) ?_
      refine reg_nil ?_
      refine seq_n ?_
      refine wc_seq ?_
      refine wc_seq ?_
      refine wc_region ?_
      refine reg_quiet rfl (load_box tab_ok rfl rfl rfl rfl) ?_
      refine reg_quiet rfl (call_r hK rfl rfl (arg_e arg_nil) (.inl rfl) (fun _ => rfl)) ?_
      refine reg_quiet rfl (step_C tab_ok (fun K hk => hk)) ?_
      refine reg_quiet rfl (step_C tab_ok (fun K hk => hk)) ?_
      refine reg_quiet rfl (step_C tab_ok (fun K hk => hk)) ?_
      refine reg_on rfl rfl rfl ?_
      refine reg_quiet rfl (step_C tab_ok (fun K hk => hk)) ?_
      refine reg_on rfl rfl rfl ?_
      refine reg_quiet rfl (step_C tab_ok (fun K hk => hk)) ?_
      refine reg_on rfl rfl rfl ?_
      refine reg_quiet rfl (step_C tab_ok (fun K hk => hk)) ?_
      refine reg_quiet rfl (pick_F tab_ok rfl rfl rfl) ?_
      refine reg_quiet rfl (step_C tab_ok (fun K hk => hk)) ?_
      refine reg_on rfl rfl rfl ?_
      refine reg_quiet rfl (step_C tab_ok (fun K hk => hk)) ?_
      refine reg_on rfl rfl rfl ?_
      refine reg_quiet rfl (step_C tab_ok (fun K hk => hk)) ?_
      refine reg_on rfl rfl rfl ?_
      refine reg_quiet rfl (step_C tab_ok (fun K hk => hk)) ?_
      refine reg_quiet rfl (pick_F tab_ok rfl rfl rfl) ?_
      refine reg_quiet rfl (step_C tab_ok (fun K hk => hk)) ?_
      refine reg_on rfl rfl rfl ?_
      refine reg_quiet rfl (step_C tab_ok (fun K hk => hk)) ?_
      refine reg_on rfl rfl rfl ?_
      refine reg_quiet rfl (step_C tab_ok (fun K hk => hk)) ?_
      refine reg_on rfl rfl rfl ?_
      refine reg_quiet rfl (step_C tab_ok (fun K hk => hk)) ?_
      refine reg_quiet rfl (pick_F tab_ok rfl rfl rfl) ?_
      refine reg_quiet rfl (step_C tab_ok (fun K hk => hk)) ?_
      refine reg_on rfl rfl rfl ?_
      refine reg_quiet rfl (step_C tab_ok (fun K hk => hk)) ?_
      refine reg_on rfl rfl rfl ?_
      refine reg_quiet rfl (step_C tab_ok (fun K hk => hk)) ?_
      refine reg_on rfl rfl rfl ?_
      refine reg_quiet rfl (step_C tab_ok (fun K hk => hk)) ?_
      refine reg_quiet rfl (pick_F tab_ok rfl rfl rfl) ?_
      refine reg_quiet rfl (step_C tab_ok (fun K hk => hk)) ?_
      refine reg_on rfl rfl rfl ?_
      refine reg_quiet rfl (step_C tab_ok (fun K hk => hk)) ?_
      refine reg_on rfl rfl rfl ?_
      refine reg_quiet rfl (step_C tab_ok (fun K hk => hk)) ?_
      refine reg_on rfl rfl rfl ?_
      refine reg_quiet rfl (step_C tab_ok (fun K hk => hk)) ?_
      refine reg_quiet rfl (pick_F tab_ok rfl rfl rfl) ?_
      refine reg_quiet rfl (step_C tab_ok (fun K hk => hk)) ?_
      refine reg_on rfl rfl rfl ?_
      refine reg_quiet rfl (step_C tab_ok (fun K hk => hk)) ?_
      refine reg_on rfl rfl rfl ?_
      refine reg_quiet rfl (step_C tab_ok (fun K hk => hk)) ?_
      refine reg_on rfl rfl rfl ?_
      refine reg_quiet rfl (step_C tab_ok (fun K hk => hk)) ?_
      refine reg_on rfl rfl rfl ?_
      refine reg_quiet rfl (step_C tab_ok (fun K hk => hk)) ?_
      refine reg_on rfl rfl rfl ?_
      refine reg_quiet rfl (step_C tab_ok (fun K hk => hk)) ?_
      refine reg_on rfl rfl rfl ?_
      refine reg_quiet rfl (step_C tab_ok (fun K hk => hk)) ?_
      refine reg_on rfl rfl rfl ?_
      refine reg_quiet rfl (load_box tab_ok rfl rfl ⟨_, rfl, rfl⟩ rfl) ?_
      refine reg_on rfl rfl rfl ?_
      refine reg_quiet rfl (len_arr tab_ok rfl rfl) ?_
      refine reg_on rfl rfl rfl ?_
      refine reg_quiet rfl (step_C tab_ok (fun K hk => hk)) ?_
      refine reg_on rfl rfl rfl ?_
      refine reg_quiet rfl (pick_T tab_ok rfl rfl rfl) ?_
      refine reg_on rfl rfl rfl ?_
      refine reg_quiet rfl (step_C tab_ok (fun K hk => hk)) ?_
      refine reg_quiet rfl (pick_F tab_ok rfl rfl rfl) ?_
      refine reg_quiet rfl (step_C tab_ok (fun K hk => hk)) ?_
      refine reg_on rfl rfl (by assumption) ?_
      refine reg_quiet rfl (step_C tab_ok (fun K hk => hk)) ?_
      refine reg_on rfl rfl (by assumption) ?_
      refine reg_quiet rfl (step_C tab_ok (fun K hk => hk)) ?_
      refine reg_on rfl rfl (by assumption) ?_
      refine reg_quiet rfl (step_C tab_ok (fun K hk => hk)) ?_
      refine reg_on rfl rfl rfl ?_
      refine reg_quiet rfl (step_C tab_ok (fun K hk => hk)) ?_
      refine reg_on rfl rfl rfl ?_
      refine reg_quiet rfl (step_C tab_ok (fun K hk => hk)) ?_
      refine reg_on rfl rfl (by assumption) ?_
      refine reg_quiet rfl (pick_T tab_ok rfl rfl rfl) ?_
      refine reg_quiet rfl (pick_F tab_ok rfl (by assumption) rfl) ?_
      refine reg_nil ?_
      refine seq_n ?_
      refine wc_false rfl rfl ?_
      refine wc_skip ?_
      refine seq_n ?_
      refine wc_seq ?_
      refine wc_seq ?_
      refine wc_region ?_
      refine reg_quiet rfl (step_C tab_ok (fun K hk => hk)) ?_
      refine reg_quiet rfl (step_C tab_ok (fun K hk => hk)) ?_
      refine reg_nil ?_
      refine seq_n ?_
      refine wc_true rfl rfl ?_
      refine wc_seq ?_
      refine wc_draw (by kernel_rfl) ?_
      refine dreg_q [19] [474] rfl (step_C tab_ok (fun K hk => hk)) ?_
      refine dreg_q [192] [474] rfl (len_own tab_ok rfl rfl) ?_
      refine dreg_q [193] [] rfl (step_C tab_ok (fun K hk => hk)) ?_
      refine dreg_q [194] [] rfl (step_C tab_ok (fun K hk => hk)) ?_
      refine dreg_onq [195, 19] [474] rfl rfl rfl rfl (step_C tab_ok (fun K hk => hk)) ?_
      refine dreg_onq [195, 196] [474] rfl rfl rfl rfl (index_own tab_ok rfl rfl rfl rfl rfl (by decide) (by decide)) ?_
      refine dreg_onq [195, 197] [474] rfl rfl rfl rfl (load_row (v := .d (encRes x)) tab_ok rfl rfl ⟨rfl, x, rfl, encRes x, rfl, rfl⟩ rfl) ?_
      refine dreg_onq [195, 12] [288] rfl rfl rfl rfl (load_box tab_ok rfl rfl rfl rfl) ?_
      refine dreg_onq [195, 198, 199] [] rfl rfl rfl rfl (eql_data rfl rfl rfl rfl (by kernel_rfl) (by decide) (res_eq _ _)) ?_
      refine dreg_q [195, 200] [] rfl (pick_T tab_ok rfl rfl rfl) ?_
      refine dreg_q [201] [] rfl (step_C tab_ok (fun K hk => hk)) ?_
      refine dreg_onq [202] [] rfl rfl (by assumption) rfl (call_r lives_is rfl rfl arg_nil (.inl rfl) (fun _ => rfl)) ?_
      refine dreg_q [202, 203] [] rfl (pick_T tab_ok rfl (by assumption) rfl) ?_
      refine dreg_q [204] [] rfl (step_C tab_ok (fun K hk => hk)) ?_
      refine dreg_end (by kernel_rfl) ?_
      refine seq_n ?_
      refine wc_ret ?_
      refine seq_r ?_
      exact ⟨trivial, [], .of rfl rfl rfl rfl rfl ⟨⟨_, rfl, AVLe.of_eq rfl⟩, rfl, trivial⟩ trivial⟩
theorem err_bad
    (n : Int) (p q : Blks) (k i : Int) (d : List Int) (v : Bool) (hp : p.length ≤ 20) (hq : q.length ≤ 20) (hd : d.length ≤ 100)
    (hNew : (badN n = true ∧ FnIs Try.prog 15 [.d (i6 n)] [] (.tup (.acons (.d zeroA) (.acons (.int .i64 1) .anil))) []) ∨ (badN n = false ∧ ∃ M : Nat, FnIs Try.prog 15 [.d (i6 n)] [] (okT M none M none) [(64, rowB true (zeros M)), (65, rowB true (zeros M))]))
    (hB1 : FnIs Try.prog 21 [.d (i6 n), .d (encOp ⟨k, i, d⟩)] [] (.bool v) []) (hB2 : FnIs Try.prog 30 [.d (i6 n), .d (encOp ⟨k, i, d⟩)] [] (.bool v) [])
    (hb0 : p.length = 0 ∨ p.length ≠ q.length)
    (hK : FnIs Try.prog 22 [.d (encA p q)] [] (.int .i64 1) [])
    (hD : FnIs Try.prog 20 [.d (encA p q), .d (encOp ⟨k, i, d⟩)] [] (errD 1) [])
    (hF : FnIs Try.prog 28 [.d (encA p q)] [] (errA 1) [])
    (hC : FnIs Try.prog 29 [.d (encA p q)] [] (errA 1) [])
    (hP : FnIs Try.prog 18 [.d (encA p q), .d (.arr 3 encOp [⟨k, i, d⟩])] [] (errP 1) [])
    (hX : FnIs Try.prog 31 [.d (encA p q), .d (encA p q)] [] (errL 1) [])
    (hZ : FnIs Try.prog 31 [.d (encA (zeros 1) (zeros 1)), .d (encA p q)] [] (errL 1) [])
    (hRd : FnIs Try.prog 32 [.d (encA p q), .d (i6 0)] [] (tup2 (encBlock zeroBlock) (i6 1)) [])
    (hWr : FnIs Try.prog 33 [.d (encA p q), .d (i6 0), .d (encBlock zeroBlock)] [] (errA 1) [])
    : FnIs Try.prog 5 [.d (encA p q), .d (encOp ⟨k, i, d⟩), .d (i6 n)] [] (.bool true) [] := by
  have g1 : decide ((p.length : Int) > 20) = false := decide_eq_false (by omega)
  have g2 : decide ((q.length : Int) > 20) = false := decide_eq_false (by omega)
  have g3 : decide ((d.length : Int) > 100) = false := decide_eq_false (by omega)
  have gv : (v != v) = false := by simp
  refine fnIs_of tab_ok Try.func5 rfl rfl rfl ?_
  refine wc_seq ?_
  refine wc_region ?_
  refine reg_new (step_C tab_ok (fun K hk => hk)) rfl ?_
  refine reg_new (step_C tab_ok (fun K hk => hk)) rfl ?_
  refine reg_quiet rfl (step_C tab_ok (fun K hk => hk)) ?_
  refine reg_nil ?_
  refine seq_n ?_
  refine wc_seq ?_
  refine wc_seq ?_
  refine wc_region ?_
  refine reg_quiet rfl (step_C tab_ok (fun K hk => hk)) ?_
  refine reg_quiet rfl (load_box tab_ok rfl rfl ⟨_, rfl, rfl⟩ rfl) ?_
  refine reg_quiet rfl (len_arr tab_ok rfl rfl) ?_
  refine reg_quiet rfl (step_C tab_ok (fun K hk => hk)) ?_
  refine reg_quiet rfl (step_C tab_ok (fun K hk => hk)) ?_
  refine reg_on rfl rfl (by assumption) ?_
  refine reg_quiet rfl (step_C tab_ok (fun K hk => hk)) ?_
  refine reg_on rfl rfl (by assumption) ?_
  refine reg_quiet rfl (load_box tab_ok rfl rfl ⟨_, rfl, rfl⟩ rfl) ?_
  refine reg_on rfl rfl (by assumption) ?_
  refine reg_quiet rfl (len_arr tab_ok rfl rfl) ?_
  refine reg_on rfl rfl (by assumption) ?_
  refine reg_quiet rfl (step_C tab_ok (fun K hk => hk)) ?_
  refine reg_quiet rfl (pick_F tab_ok rfl (by assumption) rfl) ?_
  refine reg_quiet rfl (step_C tab_ok (fun K hk => hk)) ?_
  refine reg_on rfl rfl (by assumption) ?_
  refine reg_quiet rfl (step_C tab_ok (fun K hk => hk)) ?_
  refine reg_on rfl rfl (by assumption) ?_
  refine reg_quiet rfl (load_box tab_ok rfl rfl ⟨_, rfl, rfl⟩ rfl) ?_
  refine reg_on rfl rfl (by assumption) ?_
  refine reg_quiet rfl (len_arr tab_ok rfl rfl) ?_
  refine reg_on rfl rfl (by assumption) ?_
  refine reg_quiet rfl (step_C tab_ok (fun K hk => hk)) ?_
  refine reg_quiet rfl (pick_F tab_ok rfl (by assumption) rfl) ?_
  refine reg_nil ?_
  refine seq_n ?_
  refine wc_false rfl (by assumption) ?_
  refine wc_skip ?_
  refine seq_n ?_
  rcases hNew with ⟨hb, hN⟩ | ⟨hb, M, hN⟩
  · refine wc_seq ?_
    refine wc_region ?_
    refine reg_quiet rfl (step_C tab_ok (fun K hk => hk)) ?_
    refine reg_quiet rfl (call_new hN rfl rfl (arg_e arg_nil) (.inl rfl) rfl rfl) ?_
    refine reg_quiet rfl (step_C tab_ok (fun K hk => hk)) ?_
    refine reg_quiet rfl (step_C tab_ok (fun K hk => hk)) ?_
    refine reg_quiet rfl (step_C tab_ok (fun K hk => hk)) ?_
    refine reg_new (step_C tab_ok (fun K hk => hk)) rfl ?_
    refine reg_store (store_row tab_ok rfl rfl rfl ⟨_, ⟨rfl, rfl, rfl⟩, rfl⟩ rfl) ?_
    refine reg_quiet rfl (step_C tab_ok (fun K hk => hk)) ?_
    refine reg_nil ?_
    refine seq_n ?_
    refine wc_mid (fun _ : Unit => ⟨[(3, .ptr 64 []), (4, .ptr 65 [])], [(64, some (.box 30 (.d (encA p q)))), (65, some (.box 47 (.d (encOp ⟨k, i, d⟩))))], 72, Try.f5.ntmps, 64⟩) (fun _ => True) ?_ ?_
    · rcases (Bool.or_eq_true_iff.mp hb) with h1 | h1
      · have e1 : decide (n ≥ 1) = false := decide_eq_false (by have := of_decide_eq_true h1; omega)
        refine wc_seq ?_
        refine wc_draw (by kernel_rfl) ?_
        refine dreg_q [8] [] rfl (step_C tab_ok (fun K hk => hk)) ?_
        refine dreg_q [51] [] rfl (step_C tab_ok (fun K hk => hk)) ?_
        refine dreg_q [2] [] rfl (step_C tab_ok (fun K hk => hk)) ?_
        refine dreg_q [53] [] rfl (step_C tab_ok (fun K hk => hk)) ?_
        refine dreg_q [54] [] rfl (step_C tab_ok (fun K hk => hk)) ?_
        refine dreg_offq [55, 2] rfl rfl (by assumption) rfl ?_
        refine dreg_offq [55, 56] rfl rfl (by assumption) rfl ?_
        refine dreg_q [55, 57] [] rfl (pick_F tab_ok rfl (by assumption) rfl) ?_
        refine dreg_q [52, 58] [] rfl (step_C tab_ok (fun K hk => hk)) ?_
        refine dreg_q [59] [] rfl (step_C tab_ok (fun K hk => hk)) ?_
        refine dreg_onq [60, 8] [] rfl rfl rfl rfl (step_C tab_ok (fun K hk => hk)) ?_
        refine dreg_onq [60, 61] [] rfl rfl rfl rfl (step_C tab_ok (fun K hk => hk)) ?_
        refine dreg_onq [60, 62] [] rfl rfl rfl rfl (step_C tab_ok (fun K hk => hk)) ?_
        refine dreg_onq [63, 8] [] rfl rfl rfl rfl (step_C tab_ok (fun K hk => hk)) ?_
        refine dreg_onq [63, 64] [] rfl rfl rfl rfl (step_C tab_ok (fun K hk => hk)) ?_
        refine dreg_onq [63, 65] [] rfl rfl rfl rfl (step_C tab_ok (fun K hk => hk)) ?_
        refine dreg_onq [66, 7] [256] rfl rfl rfl rfl (step_C tab_ok (fun K hk => hk)) ?_
        refine dreg_onq [66, 67] [256] rfl rfl rfl rfl (load_box tab_ok rfl rfl ⟨_, rfl, rfl⟩ rfl) ?_
        refine dreg_onq [66, 68] [] rfl rfl rfl rfl (len_nil tab_ok rfl rfl) ?_
        refine dreg_onq [66, 7] [256] rfl rfl rfl rfl (step_C tab_ok (fun K hk => hk)) ?_
        refine dreg_onq [66, 70] [256] rfl rfl rfl rfl (load_box tab_ok rfl rfl ⟨_, rfl, rfl⟩ rfl) ?_
        refine dreg_onq [66, 71] [] rfl rfl rfl rfl (len_nil tab_ok rfl rfl) ?_
        refine dreg_onq [66, 69, 72] [] rfl rfl rfl rfl (add_int tab_ok rfl rfl (wrap_i64 (by omega) (by omega))) ?_
        refine dreg_onq [66, 73] [] rfl rfl rfl rfl (step_C tab_ok (fun K hk => hk)) ?_
        refine dreg_onq [63, 66, 74] [] rfl rfl rfl rfl (pick_F tab_ok rfl rfl rfl) ?_
        refine dreg_onq [60, 63, 75] [] rfl rfl rfl rfl (pick_T tab_ok rfl rfl rfl) ?_
        refine dreg_q [60, 76] [] rfl (pick_F tab_ok rfl rfl rfl) ?_
        refine dreg_q [77] [] rfl (step_C tab_ok (fun K hk => hk)) ?_
        refine dreg_onq [78, 2] [] rfl rfl rfl rfl (step_C tab_ok (fun K hk => hk)) ?_
        refine dreg_onq [78, 4] [72] rfl rfl rfl rfl (load_box tab_ok rfl rfl rfl rfl) ?_
        refine dreg_onq [78, 79, 80] [] rfl rfl rfl rfl (call_r hB1 rfl rfl (arg_e (arg_e arg_nil)) (.inl rfl) (fun _ => rfl)) ?_
        refine dreg_onq [78, 2] [] rfl rfl rfl rfl (step_C tab_ok (fun K hk => hk)) ?_
        refine dreg_onq [78, 4] [72] rfl rfl rfl rfl (load_box tab_ok rfl rfl rfl rfl) ?_
        refine dreg_onq [78, 82, 83] [] rfl rfl rfl rfl (call_r hB2 rfl rfl (arg_e (arg_e arg_nil)) (.inl rfl) (fun _ => rfl)) ?_
        refine dreg_onq [78, 81, 84] [] rfl rfl rfl rfl (step_C tab_ok (fun K hk => hk)) ?_
        refine dreg_q [78, 85] [] rfl (pick_F tab_ok rfl rfl rfl) ?_
        refine dreg_end (by kernel_rfl) ?_
        refine seq_n ?_
        refine wc_false rfl (by assumption) ?_
        refine wc_skip ?_
        refine mid_n () [(64, some 64), (65, some 72)] trivial ?_
        exact .of rfl rfl rfl rfl rfl ⟨⟨_, rfl, .refl _⟩, rfl, ⟨_, rfl, .refl _⟩, rfl, trivial⟩ ⟨⟨rfl, rfl, _, rfl, .refl _⟩, ⟨rfl, rfl, _, rfl, .refl _⟩, trivial⟩
      · have e2 : decide (n ≤ 4096) = false := decide_eq_false (by have := of_decide_eq_true h1; omega)
        have e1 : decide (n ≥ 1) = true := decide_eq_true (by have := of_decide_eq_true h1; omega)
        have e3 : (false != decide (n ≤ 4096)) = false := by rw [e2]; rfl
        refine wc_seq ?_
        refine wc_draw (by kernel_rfl) ?_
        refine dreg_q [8] [] rfl (step_C tab_ok (fun K hk => hk)) ?_
        refine dreg_q [51] [] rfl (step_C tab_ok (fun K hk => hk)) ?_
        refine dreg_q [2] [] rfl (step_C tab_ok (fun K hk => hk)) ?_
        refine dreg_q [53] [] rfl (step_C tab_ok (fun K hk => hk)) ?_
        refine dreg_q [54] [] rfl (step_C tab_ok (fun K hk => hk)) ?_
        refine dreg_onq [55, 2] [] rfl rfl (by assumption) rfl (step_C tab_ok (fun K hk => hk)) ?_
        refine dreg_onq [55, 56] [] rfl rfl (by assumption) rfl (step_C tab_ok (fun K hk => hk)) ?_
        refine dreg_q [55, 57] [] rfl (pick_T tab_ok rfl (by assumption) rfl) ?_
        refine dreg_q [52, 58] [] rfl (step_C tab_ok (fun K hk => hk)) ?_
        refine dreg_q [59] [] rfl (step_C tab_ok (fun K hk => hk)) ?_
        refine dreg_onq [60, 8] [] rfl rfl (by assumption) rfl (step_C tab_ok (fun K hk => hk)) ?_
        refine dreg_onq [60, 61] [] rfl rfl (by assumption) rfl (step_C tab_ok (fun K hk => hk)) ?_
        refine dreg_onq [60, 62] [] rfl rfl (by assumption) rfl (step_C tab_ok (fun K hk => hk)) ?_
        refine dreg_onq [63, 8] [] rfl rfl rfl rfl (step_C tab_ok (fun K hk => hk)) ?_
        refine dreg_onq [63, 64] [] rfl rfl rfl rfl (step_C tab_ok (fun K hk => hk)) ?_
        refine dreg_onq [63, 65] [] rfl rfl rfl rfl (step_C tab_ok (fun K hk => hk)) ?_
        refine dreg_onq [66, 7] [256] rfl rfl rfl rfl (step_C tab_ok (fun K hk => hk)) ?_
        refine dreg_onq [66, 67] [256] rfl rfl rfl rfl (load_box tab_ok rfl rfl ⟨_, rfl, rfl⟩ rfl) ?_
        refine dreg_onq [66, 68] [] rfl rfl rfl rfl (len_nil tab_ok rfl rfl) ?_
        refine dreg_onq [66, 7] [256] rfl rfl rfl rfl (step_C tab_ok (fun K hk => hk)) ?_
        refine dreg_onq [66, 70] [256] rfl rfl rfl rfl (load_box tab_ok rfl rfl ⟨_, rfl, rfl⟩ rfl) ?_
        refine dreg_onq [66, 71] [] rfl rfl rfl rfl (len_nil tab_ok rfl rfl) ?_
        refine dreg_onq [66, 69, 72] [] rfl rfl rfl rfl (add_int tab_ok rfl rfl (wrap_i64 (by omega) (by omega))) ?_
        refine dreg_onq [66, 73] [] rfl rfl rfl rfl (step_C tab_ok (fun K hk => hk)) ?_
        refine dreg_onq [63, 66, 74] [] rfl rfl rfl rfl (pick_F tab_ok rfl rfl rfl) ?_
        refine dreg_onq [60, 63, 75] [] rfl rfl (by assumption) rfl (pick_T tab_ok rfl rfl rfl) ?_
        refine dreg_q [60, 76] [] rfl (pick_F tab_ok rfl (by assumption) rfl) ?_
        refine dreg_q [77] [] rfl (step_C tab_ok (fun K hk => hk)) ?_
        refine dreg_onq [78, 2] [] rfl rfl rfl rfl (step_C tab_ok (fun K hk => hk)) ?_
        refine dreg_onq [78, 4] [72] rfl rfl rfl rfl (load_box tab_ok rfl rfl rfl rfl) ?_
        refine dreg_onq [78, 79, 80] [] rfl rfl rfl rfl (call_r hB1 rfl rfl (arg_e (arg_e arg_nil)) (.inl rfl) (fun _ => rfl)) ?_
        refine dreg_onq [78, 2] [] rfl rfl rfl rfl (step_C tab_ok (fun K hk => hk)) ?_
        refine dreg_onq [78, 4] [72] rfl rfl rfl rfl (load_box tab_ok rfl rfl rfl rfl) ?_
        refine dreg_onq [78, 82, 83] [] rfl rfl rfl rfl (call_r hB2 rfl rfl (arg_e (arg_e arg_nil)) (.inl rfl) (fun _ => rfl)) ?_
        refine dreg_onq [78, 81, 84] [] rfl rfl rfl rfl (step_C tab_ok (fun K hk => hk)) ?_
        refine dreg_q [78, 85] [] rfl (pick_F tab_ok rfl rfl rfl) ?_
        refine dreg_end (by kernel_rfl) ?_
        refine seq_n ?_
        refine wc_false rfl (by assumption) ?_
        refine wc_skip ?_
        refine mid_n () [(64, some 64), (65, some 72)] trivial ?_
        exact .of rfl rfl rfl rfl rfl ⟨⟨_, rfl, .refl _⟩, rfl, ⟨_, rfl, .refl _⟩, rfl, trivial⟩ ⟨⟨rfl, rfl, _, rfl, .refl _⟩, ⟨rfl, rfl, _, rfl, .refl _⟩, trivial⟩
    intro _ _
    refine wc_of ?_
    refine wc_seq ?_
    refine wc_region ?_
    refine reg_quiet rfl (step_C tab_ok (fun K hk => hk)) ?_
    refine reg_nil ?_
    refine seq_n ?_
    refine wc_mid (fun _ : Unit => ⟨[(9, .int .i64 1), (3, .ptr 64 []), (4, .ptr 65 [])], [(64, some (.box 30 (.d (encA p q)))), (65, some (.box 47 (.d (encOp ⟨k, i, d⟩))))], 72, Try.f5.ntmps, 64⟩) (fun _ => True) ?_ ?_
    · by_cases h0 : p.length = 0
      · have f0 : decide ((p.length : Int) = 0) = true := decide_eq_true (by omega)
        refine wc_seq ?_
        refine wc_region ?_
        refine reg_quiet rfl (step_C tab_ok (fun K hk => hk)) ?_
        refine reg_quiet rfl (load_box tab_ok rfl rfl ⟨_, rfl, rfl⟩ rfl) ?_
        refine reg_quiet rfl (len_arr tab_ok rfl rfl) ?_
        refine reg_quiet rfl (step_C tab_ok (fun K hk => hk)) ?_
        refine reg_quiet rfl (step_C tab_ok (fun K hk => hk)) ?_
        refine reg_skip rfl rfl (by assumption) rfl rfl ?_
        refine reg_skip rfl rfl (by assumption) rfl rfl ?_
        refine reg_skip rfl rfl (by assumption) rfl rfl ?_
        refine reg_skip rfl rfl (by assumption) rfl rfl ?_
        refine reg_skip rfl rfl (by assumption) rfl rfl ?_
        refine reg_skip rfl rfl (by assumption) rfl rfl ?_
        refine reg_skip rfl rfl (by assumption) rfl rfl ?_
        refine reg_quiet rfl (pick_T tab_ok rfl (by assumption) rfl) ?_
        refine reg_nil ?_
        refine seq_n ?_
        refine wc_true rfl rfl ?_
        refine wc_region ?_
        refine reg_quiet rfl (step_C tab_ok (fun K hk => hk)) ?_
        refine reg_nil ?_
        refine mid_n () [(64, some 64), (65, some 65)] trivial ?_
        exact .of rfl rfl rfl rfl rfl ⟨⟨_, rfl, .refl _⟩, rfl, ⟨_, rfl, .refl _⟩, rfl, ⟨_, rfl, .refl _⟩, rfl, trivial⟩ ⟨⟨rfl, rfl, _, rfl, .refl _⟩, ⟨rfl, rfl, _, rfl, .refl _⟩, trivial⟩
      · have f0 : decide ((p.length : Int) = 0) = false := decide_eq_false (by omega)
        have f1 : (!decide ((p.length : Int) = (q.length : Int))) = true := by rw [decide_eq_false (by omega)]; rfl
        refine wc_seq ?_
        refine wc_region ?_
        refine reg_quiet rfl (step_C tab_ok (fun K hk => hk)) ?_
        refine reg_quiet rfl (load_box tab_ok rfl rfl ⟨_, rfl, rfl⟩ rfl) ?_
        refine reg_quiet rfl (len_arr tab_ok rfl rfl) ?_
        refine reg_quiet rfl (step_C tab_ok (fun K hk => hk)) ?_
        refine reg_quiet rfl (step_C tab_ok (fun K hk => hk)) ?_
        refine reg_on rfl rfl (by assumption) ?_
        refine reg_quiet rfl (step_C tab_ok (fun K hk => hk)) ?_
        refine reg_on rfl rfl (by assumption) ?_
        refine reg_quiet rfl (load_box tab_ok rfl rfl ⟨_, rfl, rfl⟩ rfl) ?_
        refine reg_on rfl rfl (by assumption) ?_
        refine reg_quiet rfl (len_arr tab_ok rfl rfl) ?_
        refine reg_on rfl rfl (by assumption) ?_
        refine reg_quiet rfl (step_C tab_ok (fun K hk => hk)) ?_
        refine reg_on rfl rfl (by assumption) ?_
        refine reg_quiet rfl (load_box tab_ok rfl rfl ⟨_, rfl, rfl⟩ rfl) ?_
        refine reg_on rfl rfl (by assumption) ?_
        refine reg_quiet rfl (len_arr tab_ok rfl rfl) ?_
        refine reg_on rfl rfl (by assumption) ?_
        refine reg_quiet rfl (step_C tab_ok (fun K hk => hk)) ?_
        refine reg_quiet rfl (pick_F tab_ok rfl (by assumption) rfl) ?_
        refine reg_nil ?_
        refine seq_n ?_
        refine wc_true rfl (by assumption) ?_
        refine wc_region ?_
        refine reg_quiet rfl (step_C tab_ok (fun K hk => hk)) ?_
        refine reg_nil ?_
        refine mid_n () [(64, some 64), (65, some 65)] trivial ?_
        exact .of rfl rfl rfl rfl rfl ⟨⟨_, rfl, .refl _⟩, rfl, ⟨_, rfl, .refl _⟩, rfl, ⟨_, rfl, .refl _⟩, rfl, trivial⟩ ⟨⟨rfl, rfl, _, rfl, .refl _⟩, ⟨rfl, rfl, _, rfl, .refl _⟩, trivial⟩
    intro _ _
    refine wc_of ?_
    refine wc_seq ?_
    refine wc_draw (by kernel_rfl) ?_
    refine dreg_w [] [] rfl (make_full (enc := encBlock) (s := 32) (N := 1) tab_ok zeroBlock rfl rfl rfl rfl rfl rfl rfl (by decide) rfl) ?_
    refine dreg_w [] [] rfl (make_full (enc := encBlock) (s := 32) (N := 1) tab_ok zeroBlock rfl rfl rfl rfl rfl rfl rfl (by decide) rfl) ?_
    refine dreg_q [100, 101] [72, 80] rfl (build_struct tab_ok rfl rfl rfl rfl) ?_
    refine dreg_w [] [] rfl (step_C tab_ok (fun K hk => hk)) ?_
    refine dreg_s [10, 102] [96, 72, 80] (store_row tab_ok rfl rfl rfl ⟨_, ⟨rfl, rfl, rfl⟩, rfl⟩ rfl) ?_
    refine dreg_end (by kernel_rfl) ?_
    refine seq_n ?_
    refine wc_seq ?_
    refine wc_region ?_
    refine reg_quiet rfl (load_box tab_ok rfl rfl rfl rfl) ?_
    refine reg_quiet rfl (load_box tab_ok rfl rfl rfl rfl) ?_
    refine reg_quiet rfl (call_new hD rfl rfl (arg_e (arg_e arg_nil)) (.inl rfl) rfl rfl) ?_
    refine reg_quiet rfl (step_C tab_ok (fun K hk => hk)) ?_
    refine reg_quiet rfl (step_C tab_ok (fun K hk => hk)) ?_
    refine reg_quiet rfl (step_C tab_ok (fun K hk => hk)) ?_
    refine reg_quiet rfl (step_C tab_ok (fun K hk => hk)) ?_
    refine reg_new (step_C tab_ok (fun K hk => hk)) rfl ?_
    refine reg_new (step_C tab_ok (fun K hk => hk)) rfl ?_
    refine reg_store (store_row tab_ok rfl rfl rfl ⟨_, ⟨rfl, rfl, rfl⟩, rfl⟩ rfl) ?_
    refine reg_store (store_row tab_ok rfl rfl rfl ⟨_, ⟨rfl, rfl, rfl⟩, rfl⟩ rfl) ?_
    refine reg_quiet rfl (step_C tab_ok (fun K hk => hk)) ?_
    refine reg_nil ?_
    refine seq_n ?_
    refine wc_seq ?_
    refine wc_region ?_
    refine reg_quiet rfl (load_box tab_ok rfl rfl rfl rfl) ?_
    refine reg_quiet rfl (call_new hF rfl rfl (arg_e arg_nil) (.inl rfl) rfl rfl) ?_
    refine reg_quiet rfl (step_C tab_ok (fun K hk => hk)) ?_
    refine reg_quiet rfl (step_C tab_ok (fun K hk => hk)) ?_
    refine reg_quiet rfl (step_C tab_ok (fun K hk => hk)) ?_
    refine reg_new (step_C tab_ok (fun K hk => hk)) rfl ?_
    refine reg_store (store_row tab_ok rfl rfl rfl ⟨_, ⟨rfl, rfl, rfl⟩, rfl⟩ rfl) ?_
    refine reg_quiet rfl (step_C tab_ok (fun K hk => hk)) ?_
    refine reg_nil ?_
    refine seq_n ?_
    refine wc_seq ?_
    refine wc_region ?_
    refine reg_quiet rfl (load_box tab_ok rfl rfl rfl rfl) ?_
    refine reg_quiet rfl (call_new hC rfl rfl (arg_e arg_nil) (.inl rfl) rfl rfl) ?_
    refine reg_quiet rfl (step_C tab_ok (fun K hk => hk)) ?_
    refine reg_quiet rfl (step_C tab_ok (fun K hk => hk)) ?_
    refine reg_quiet rfl (step_C tab_ok (fun K hk => hk)) ?_
    refine reg_new (step_C tab_ok (fun K hk => hk)) rfl ?_
    refine reg_store (store_row tab_ok rfl rfl rfl ⟨_, ⟨rfl, rfl, rfl⟩, rfl⟩ rfl) ?_
    refine reg_quiet rfl (step_C tab_ok (fun K hk => hk)) ?_
    refine reg_nil ?_
    refine seq_n ?_
    refine wc_seq ?_
    refine wc_region ?_
    refine reg_quiet rfl (load_box tab_ok rfl rfl rfl rfl) ?_
    refine reg_quiet rfl (load_box tab_ok rfl rfl rfl rfl) ?_
    refine reg_new (build_list (enc := encOp) (s := 3) (xs := [⟨k, i, d⟩]) tab_ok rfl rfl rfl rfl rfl rfl rfl rfl rfl (fun _ => rfl) rfl) rfl ?_
    refine reg_quiet rfl (call_r hP rfl rfl (arg_e (arg_ownL rfl rfl arg_nil)) (.inr (errP_plain _)) (fun _ => rfl)) ?_
    refine reg_quiet rfl (step_C tab_ok (fun K hk => hk)) ?_
    refine reg_quiet rfl (step_C tab_ok (fun K hk => hk)) ?_
    refine reg_quiet rfl (step_C tab_ok (fun K hk => hk)) ?_
    refine reg_quiet rfl (step_C tab_ok (fun K hk => hk)) ?_
    refine reg_new (step_C tab_ok (fun K hk => hk)) rfl ?_
    refine reg_store (store_row tab_ok rfl rfl rfl ⟨_, ⟨rfl, rfl, rfl⟩, rfl⟩ rfl) ?_
    refine reg_quiet rfl (step_C tab_ok (fun K hk => hk)) ?_
    refine reg_quiet rfl (step_C tab_ok (fun K hk => hk)) ?_
    refine reg_nil ?_
    refine seq_n ?_
    refine wc_seq ?_
    refine wc_region ?_
    refine reg_quiet rfl (load_box tab_ok rfl rfl rfl rfl) ?_
    refine reg_quiet rfl (load_box tab_ok rfl rfl rfl rfl) ?_
    refine reg_quiet rfl (call_new hX rfl rfl (arg_e (arg_e arg_nil)) (.inl rfl) rfl rfl) ?_
    refine reg_quiet rfl (step_C tab_ok (fun K hk => hk)) ?_
    refine reg_quiet rfl (step_C tab_ok (fun K hk => hk)) ?_
    refine reg_quiet rfl (step_C tab_ok (fun K hk => hk)) ?_
    refine reg_quiet rfl (step_C tab_ok (fun K hk => hk)) ?_
    refine reg_quiet rfl (step_C tab_ok (fun K hk => hk)) ?_
    refine reg_nil ?_
    refine seq_n ?_
    refine wc_seq ?_
    refine wc_region ?_
    refine reg_quiet rfl (load_box tab_ok rfl rfl rfl rfl) ?_
    refine reg_quiet rfl (load_box tab_ok rfl rfl rfl rfl) ?_
    refine reg_quiet rfl (call_r hZ rfl rfl (arg_A rfl rfl rfl rfl (arg_e arg_nil)) (.inr (errL_plain _)) (fun _ => rfl)) ?_
    refine reg_quiet rfl (step_C tab_ok (fun K hk => hk)) ?_
    refine reg_quiet rfl (step_C tab_ok (fun K hk => hk)) ?_
    refine reg_quiet rfl (step_C tab_ok (fun K hk => hk)) ?_
    refine reg_quiet rfl (step_C tab_ok (fun K hk => hk)) ?_
    refine reg_quiet rfl (step_C tab_ok (fun K hk => hk)) ?_
    refine reg_nil ?_
    refine seq_n ?_
    refine wc_seq ?_
    refine wc_seq ?_
    refine wc_region ?_
    refine reg_quiet rfl (load_box tab_ok rfl rfl rfl rfl) ?_
    refine reg_quiet rfl (call_r hK rfl rfl (arg_e arg_nil) (.inl rfl) (fun _ => rfl)) ?_
    refine reg_quiet rfl (step_C tab_ok (fun K hk => hk)) ?_
    refine reg_quiet rfl (step_C tab_ok (fun K hk => hk)) ?_
    refine reg_quiet rfl (step_C tab_ok (fun K hk => hk)) ?_
    refine reg_on rfl rfl rfl ?_
    refine reg_quiet rfl (step_C tab_ok (fun K hk => hk)) ?_
    refine reg_on rfl rfl rfl ?_
    refine reg_quiet rfl (step_C tab_ok (fun K hk => hk)) ?_
    refine reg_on rfl rfl rfl ?_
    refine reg_quiet rfl (step_C tab_ok (fun K hk => hk)) ?_
    refine reg_quiet rfl (pick_F tab_ok rfl rfl rfl) ?_
    refine reg_quiet rfl (step_C tab_ok (fun K hk => hk)) ?_
    refine reg_on rfl rfl rfl ?_
    refine reg_quiet rfl (step_C tab_ok (fun K hk => hk)) ?_
    refine reg_on rfl rfl rfl ?_
    refine reg_quiet rfl (step_C tab_ok (fun K hk => hk)) ?_
    refine reg_on rfl rfl rfl ?_
    refine reg_quiet rfl (step_C tab_ok (fun K hk => hk)) ?_
    refine reg_quiet rfl (pick_F tab_ok rfl rfl rfl) ?_
    refine reg_quiet rfl (step_C tab_ok (fun K hk => hk)) ?_
    refine reg_on rfl rfl rfl ?_
    refine reg_quiet rfl (step_C tab_ok (fun K hk => hk)) ?_
    refine reg_on rfl rfl rfl ?_
    refine reg_quiet rfl (step_C tab_ok (fun K hk => hk)) ?_
    refine reg_on rfl rfl rfl ?_
    refine reg_quiet rfl (step_C tab_ok (fun K hk => hk)) ?_
    refine reg_quiet rfl (pick_F tab_ok rfl rfl rfl) ?_
    refine reg_quiet rfl (step_C tab_ok (fun K hk => hk)) ?_
    refine reg_on rfl rfl rfl ?_
    refine reg_quiet rfl (step_C tab_ok (fun K hk => hk)) ?_
    refine reg_on rfl rfl rfl ?_
    refine reg_quiet rfl (step_C tab_ok (fun K hk => hk)) ?_
    refine reg_on rfl rfl rfl ?_
    refine reg_quiet rfl (step_C tab_ok (fun K hk => hk)) ?_
    refine reg_quiet rfl (pick_F tab_ok rfl rfl rfl) ?_
    refine reg_quiet rfl (step_C tab_ok (fun K hk => hk)) ?_
    refine reg_on rfl rfl rfl ?_
    refine reg_quiet rfl (step_C tab_ok (fun K hk => hk)) ?_
    refine reg_on rfl rfl rfl ?_
    refine reg_quiet rfl (step_C tab_ok (fun K hk => hk)) ?_
    refine reg_on rfl rfl rfl ?_
    refine reg_quiet rfl (step_C tab_ok (fun K hk => hk)) ?_
    refine reg_quiet rfl (pick_F tab_ok rfl rfl rfl) ?_
    refine reg_quiet rfl (step_C tab_ok (fun K hk => hk)) ?_
    refine reg_on rfl rfl rfl ?_
    refine reg_quiet rfl (step_C tab_ok (fun K hk => hk)) ?_
    refine reg_on rfl rfl rfl ?_
    refine reg_quiet rfl (step_C tab_ok (fun K hk => hk)) ?_
    refine reg_on rfl rfl rfl ?_
    refine reg_quiet rfl (step_C tab_ok (fun K hk => hk)) ?_
    refine reg_on rfl rfl rfl ?_
    refine reg_quiet rfl (step_C tab_ok (fun K hk => hk)) ?_
    refine reg_on rfl rfl rfl ?_
    refine reg_quiet rfl (step_C tab_ok (fun K hk => hk)) ?_
    refine reg_skip rfl rfl rfl rfl rfl ?_
    refine reg_skip rfl rfl rfl rfl rfl ?_
    refine reg_skip rfl rfl rfl rfl rfl ?_
    refine reg_skip rfl rfl rfl rfl rfl ?_
    refine reg_on rfl rfl rfl ?_
    refine reg_quiet rfl (pick_F tab_ok rfl rfl rfl) ?_
    refine reg_on rfl rfl rfl ?_
    refine reg_quiet rfl (step_C tab_ok (fun K hk => hk)) ?_
    refine reg_quiet rfl (pick_F tab_ok rfl rfl rfl) ?_
    refine reg_quiet rfl (step_C tab_ok (fun K hk => hk)) ?_
    refine reg_on rfl rfl rfl ?_
    refine reg_quiet rfl (step_C tab_ok (fun K hk => hk)) ?_
    refine reg_on rfl rfl rfl ?_
    refine reg_quiet rfl (step_C tab_ok (fun K hk => hk)) ?_
    refine reg_on rfl rfl rfl ?_
    refine reg_quiet rfl (step_C tab_ok (fun K hk => hk)) ?_
    refine reg_on rfl rfl rfl ?_
    refine reg_quiet rfl (step_C tab_ok (fun K hk => hk)) ?_
    refine reg_on rfl rfl rfl ?_
    refine reg_quiet rfl (step_C tab_ok (fun K hk => hk)) ?_
    refine reg_on rfl rfl rfl ?_
    refine reg_quiet rfl (pick_T tab_ok rfl rfl rfl) ?_
    refine reg_quiet rfl (pick_F tab_ok rfl rfl rfl) ?_
    refine reg_nil ?_
    refine seq_n ?_
    refine wc_false rfl rfl ?_
    refine wc_skip ?_
    refine seq_n ?_
    refine wc_seq ?_
    refine wc_seq ?_
    refine wc_region ?_
    refine reg_quiet rfl (step_C tab_ok (fun K hk => hk)) ?_
    refine reg_quiet rfl (step_C tab_ok (fun K hk => hk)) ?_
    refine reg_nil ?_
    refine seq_n ?_
    refine wc_false rfl rfl ?_
    refine wc_skip ?_
    refine seq_n ?_
    refine wc_seq ?_
    refine wc_region ?_
    refine reg_quiet rfl (load_box tab_ok rfl rfl rfl rfl) ?_
    refine reg_quiet rfl (call_r hRd rfl rfl (arg_e (arg_e arg_nil)) (.inl rfl) (fun _ => rfl)) ?_
    refine reg_quiet rfl (step_C tab_ok (fun K hk => hk)) ?_
    refine reg_quiet rfl (step_C tab_ok (fun K hk => hk)) ?_
    refine reg_quiet rfl (step_C tab_ok (fun K hk => hk)) ?_
    refine reg_new (step_C tab_ok (fun K hk => hk)) rfl ?_
    refine reg_store (store_row tab_ok rfl rfl rfl ⟨_, ⟨rfl, rfl, rfl⟩, rfl⟩ rfl) ?_
    refine reg_quiet rfl (step_C tab_ok (fun K hk => hk)) ?_
    refine reg_nil ?_
    refine seq_n ?_
    refine wc_seq ?_
    refine wc_region ?_
    refine reg_quiet rfl (load_box tab_ok rfl rfl rfl rfl) ?_
    refine reg_quiet rfl (build_array tab_ok rfl rfl rfl) ?_
    refine reg_quiet rfl (call_r hWr rfl rfl (arg_e (arg_e (arg_e arg_nil))) (.inl rfl) (fun _ => rfl)) ?_
    refine reg_quiet rfl (step_C tab_ok (fun K hk => hk)) ?_
    refine reg_quiet rfl (step_C tab_ok (fun K hk => hk)) ?_
    refine reg_quiet rfl (step_C tab_ok (fun K hk => hk)) ?_
    refine reg_new (step_C tab_ok (fun K hk => hk)) rfl ?_
    refine reg_store (store_row tab_ok rfl rfl rfl ⟨_, ⟨rfl, rfl, rfl⟩, rfl⟩ rfl) ?_
    refine reg_quiet rfl (step_C tab_ok (fun K hk => hk)) ?_
    refine reg_nil ?_
    refine seq_n ?_
    refine wc_seq ?_
    refine wc_region ?_
    refine reg_quiet rfl (step_C tab_ok (fun K hk => hk)) ?_
    refine reg_quiet rfl (step_C tab_ok (fun K hk => hk)) ?_
    refine reg_quiet rfl (step_C tab_ok (fun K hk => hk)) ?_
    refine reg_quiet rfl (step_C tab_ok (fun K hk => hk)) ?_
    refine reg_on rfl rfl rfl ?_
    refine reg_quiet rfl (step_C tab_ok (fun K hk => hk)) ?_
    refine reg_on rfl rfl rfl ?_
    refine reg_quiet rfl (step_C tab_ok (fun K hk => hk)) ?_
    refine reg_on rfl rfl rfl ?_
    refine reg_quiet rfl (step_C tab_ok (fun K hk => hk)) ?_
    refine reg_quiet rfl (pick_T tab_ok rfl rfl rfl) ?_
    refine reg_quiet rfl (step_C tab_ok (fun K hk => hk)) ?_
    refine reg_on rfl rfl rfl ?_
    refine reg_quiet rfl (step_C tab_ok (fun K hk => hk)) ?_
    refine reg_on rfl rfl rfl ?_
    refine reg_quiet rfl (len_nil tab_ok rfl rfl) ?_
    refine reg_on rfl rfl rfl ?_
    refine reg_quiet rfl (step_C tab_ok (fun K hk => hk)) ?_
    refine reg_quiet rfl (pick_T tab_ok rfl rfl rfl) ?_
    refine reg_quiet rfl (step_C tab_ok (fun K hk => hk)) ?_
    refine reg_on rfl rfl rfl ?_
    refine reg_quiet rfl (load_box tab_ok rfl rfl rfl rfl) ?_
    refine reg_on rfl rfl rfl ?_
    refine reg_quiet rfl (build_struct tab_ok rfl rfl rfl rfl) ?_
    refine reg_on rfl rfl rfl ?_
    refine reg_quiet rfl (eql_data rfl rfl rfl rfl (by kernel_rfl) (by decide) (res_eq zeroRes zeroRes)) ?_
    refine reg_quiet rfl (pick_T tab_ok rfl rfl rfl) ?_
    refine reg_quiet rfl (step_C tab_ok (fun K hk => hk)) ?_
    refine reg_on rfl rfl rfl ?_
    refine reg_quiet rfl (call_r lives_is rfl rfl arg_nil (.inl rfl) (fun _ => rfl)) ?_
    refine reg_quiet rfl (pick_T tab_ok rfl rfl rfl) ?_
    refine reg_quiet rfl (step_C tab_ok (fun K hk => hk)) ?_
    refine reg_nil ?_
    refine seq_n ?_
    refine wc_ret ?_
    exact ⟨trivial, [], .of rfl rfl rfl rfl rfl ⟨⟨_, rfl, AVLe.of_eq rfl⟩, rfl, trivial⟩ trivial⟩
  · refine wc_seq ?_
    refine wc_region ?_
    refine reg_quiet rfl (step_C tab_ok (fun K hk => hk)) ?_
    refine reg_new2 (call_new hN rfl rfl (arg_e arg_nil) (.inl rfl) rfl rfl) rfl ?_
    refine reg_quiet rfl (step_C tab_ok (fun K hk => hk)) ?_
    refine reg_quiet rfl (step_C tab_ok (fun K hk => hk)) ?_
    refine reg_quiet rfl (step_C tab_ok (fun K hk => hk)) ?_
    refine reg_new (step_C tab_ok (fun K hk => hk)) rfl ?_
    refine reg_store (store_row tab_ok rfl rfl rfl ⟨_, ⟨rfl, rfl, rfl⟩, rfl⟩ rfl) ?_
    refine reg_quiet rfl (step_C tab_ok (fun K hk => hk)) ?_
    refine reg_nil ?_
    refine seq_n ?_
    have hb' := Bool.or_eq_false_iff.mp hb
    have e1 : decide (n ≥ 1) = true := decide_eq_true (by have := of_decide_eq_false hb'.1; omega)
    have e2 : decide (n ≤ 4096) = true := decide_eq_true (by have := of_decide_eq_false hb'.2; omega)
    refine wc_mid (fun _ : Unit => ⟨[(3, .ptr 64 []), (4, .ptr 65 [])], [(64, some (.box 30 (.d (encA p q)))), (65, some (.box 47 (.d (encOp ⟨k, i, d⟩))))], 72, Try.f5.ntmps, 64⟩) (fun _ => True) ?_ ?_
    · have e3 : (true != decide (n ≤ 4096)) = false := by rw [e2]; rfl
      refine wc_seq ?_
      refine wc_draw (by kernel_rfl) ?_
      refine dreg_q [8] [] rfl (step_C tab_ok (fun K hk => hk)) ?_
      refine dreg_q [51] [] rfl (step_C tab_ok (fun K hk => hk)) ?_
      refine dreg_q [2] [] rfl (step_C tab_ok (fun K hk => hk)) ?_
      refine dreg_q [53] [] rfl (step_C tab_ok (fun K hk => hk)) ?_
      refine dreg_q [54] [] rfl (step_C tab_ok (fun K hk => hk)) ?_
      refine dreg_onq [55, 2] [] rfl rfl (by assumption) rfl (step_C tab_ok (fun K hk => hk)) ?_
      refine dreg_onq [55, 56] [] rfl rfl (by assumption) rfl (step_C tab_ok (fun K hk => hk)) ?_
      refine dreg_q [55, 57] [] rfl (pick_T tab_ok rfl (by assumption) rfl) ?_
      refine dreg_q [52, 58] [] rfl (step_C tab_ok (fun K hk => hk)) ?_
      refine dreg_q [59] [] rfl (step_C tab_ok (fun K hk => hk)) ?_
      refine dreg_onq [60, 8] [] rfl rfl (by assumption) rfl (step_C tab_ok (fun K hk => hk)) ?_
      refine dreg_onq [60, 61] [] rfl rfl (by assumption) rfl (step_C tab_ok (fun K hk => hk)) ?_
      refine dreg_onq [60, 62] [] rfl rfl (by assumption) rfl (step_C tab_ok (fun K hk => hk)) ?_
      refine dreg_offq [63, 8] rfl rfl rfl rfl ?_
      refine dreg_offq [63, 64] rfl rfl rfl rfl ?_
      refine dreg_offq [63, 65] rfl rfl rfl rfl ?_
      refine dreg_offUq [66, 7] rfl rfl rfl ?_
      refine dreg_offUq [66, 67] rfl rfl rfl ?_
      refine dreg_offUq [66, 68] rfl rfl rfl ?_
      refine dreg_offUq [66, 7] rfl rfl rfl ?_
      refine dreg_offUq [66, 70] rfl rfl rfl ?_
      refine dreg_offUq [66, 71] rfl rfl rfl ?_
      refine dreg_offUq [66, 69, 72] rfl rfl rfl ?_
      refine dreg_offUq [66, 73] rfl rfl rfl ?_
      refine dreg_offq [63, 66, 74] rfl rfl rfl rfl ?_
      refine dreg_onq [60, 63, 75] [] rfl rfl (by assumption) rfl (pick_F tab_ok rfl rfl rfl) ?_
      refine dreg_q [60, 76] [] rfl (pick_F tab_ok rfl (by assumption) rfl) ?_
      refine dreg_q [77] [] rfl (step_C tab_ok (fun K hk => hk)) ?_
      refine dreg_onq [78, 2] [] rfl rfl rfl rfl (step_C tab_ok (fun K hk => hk)) ?_
      refine dreg_onq [78, 4] [72] rfl rfl rfl rfl (load_box tab_ok rfl rfl rfl rfl) ?_
      refine dreg_onq [78, 79, 80] [] rfl rfl rfl rfl (call_r hB1 rfl rfl (arg_e (arg_e arg_nil)) (.inl rfl) (fun _ => rfl)) ?_
      refine dreg_onq [78, 2] [] rfl rfl rfl rfl (step_C tab_ok (fun K hk => hk)) ?_
      refine dreg_onq [78, 4] [72] rfl rfl rfl rfl (load_box tab_ok rfl rfl rfl rfl) ?_
      refine dreg_onq [78, 82, 83] [] rfl rfl rfl rfl (call_r hB2 rfl rfl (arg_e (arg_e arg_nil)) (.inl rfl) (fun _ => rfl)) ?_
      refine dreg_onq [78, 81, 84] [] rfl rfl rfl rfl (step_C tab_ok (fun K hk => hk)) ?_
      refine dreg_q [78, 85] [] rfl (pick_F tab_ok rfl rfl rfl) ?_
      refine dreg_end (by kernel_rfl) ?_
      refine seq_n ?_
      refine wc_false rfl (by assumption) ?_
      refine wc_skip ?_
      refine mid_n () [(64, some 64), (65, some 72)] trivial ?_
      exact .of rfl rfl rfl rfl rfl ⟨⟨_, rfl, .refl _⟩, rfl, ⟨_, rfl, .refl _⟩, rfl, trivial⟩ ⟨⟨rfl, rfl, _, rfl, .refl _⟩, ⟨rfl, rfl, _, rfl, .refl _⟩, trivial⟩
    intro _ _
    refine wc_of ?_
    refine wc_seq ?_
    refine wc_region ?_
    refine reg_quiet rfl (step_C tab_ok (fun K hk => hk)) ?_
    refine reg_nil ?_
    refine seq_n ?_
    refine wc_mid (fun _ : Unit => ⟨[(9, .int .i64 1), (3, .ptr 64 []), (4, .ptr 65 [])], [(64, some (.box 30 (.d (encA p q)))), (65, some (.box 47 (.d (encOp ⟨k, i, d⟩))))], 72, Try.f5.ntmps, 64⟩) (fun _ => True) ?_ ?_
    · by_cases h0 : p.length = 0
      · have f0 : decide ((p.length : Int) = 0) = true := decide_eq_true (by omega)
        refine wc_seq ?_
        refine wc_region ?_
        refine reg_quiet rfl (step_C tab_ok (fun K hk => hk)) ?_
        refine reg_quiet rfl (load_box tab_ok rfl rfl ⟨_, rfl, rfl⟩ rfl) ?_
        refine reg_quiet rfl (len_arr tab_ok rfl rfl) ?_
        refine reg_quiet rfl (step_C tab_ok (fun K hk => hk)) ?_
        refine reg_quiet rfl (step_C tab_ok (fun K hk => hk)) ?_
        refine reg_skip rfl rfl (by assumption) rfl rfl ?_
        refine reg_skip rfl rfl (by assumption) rfl rfl ?_
        refine reg_skip rfl rfl (by assumption) rfl rfl ?_
        refine reg_skip rfl rfl (by assumption) rfl rfl ?_
        refine reg_skip rfl rfl (by assumption) rfl rfl ?_
        refine reg_skip rfl rfl (by assumption) rfl rfl ?_
        refine reg_skip rfl rfl (by assumption) rfl rfl ?_
        refine reg_quiet rfl (pick_T tab_ok rfl (by assumption) rfl) ?_
        refine reg_nil ?_
        refine seq_n ?_
        refine wc_true rfl rfl ?_
        refine wc_region ?_
        refine reg_quiet rfl (step_C tab_ok (fun K hk => hk)) ?_
        refine reg_nil ?_
        refine mid_n () [(64, some 64), (65, some 65)] trivial ?_
        exact .of rfl rfl rfl rfl rfl ⟨⟨_, rfl, .refl _⟩, rfl, ⟨_, rfl, .refl _⟩, rfl, ⟨_, rfl, .refl _⟩, rfl, trivial⟩ ⟨⟨rfl, rfl, _, rfl, .refl _⟩, ⟨rfl, rfl, _, rfl, .refl _⟩, trivial⟩
      · have f0 : decide ((p.length : Int) = 0) = false := decide_eq_false (by omega)
        have f1 : (!decide ((p.length : Int) = (q.length : Int))) = true := by rw [decide_eq_false (by omega)]; rfl
        refine wc_seq ?_
        refine wc_region ?_
        refine reg_quiet rfl (step_C tab_ok (fun K hk => hk)) ?_
        refine reg_quiet rfl (load_box tab_ok rfl rfl ⟨_, rfl, rfl⟩ rfl) ?_
        refine reg_quiet rfl (len_arr tab_ok rfl rfl) ?_
        refine reg_quiet rfl (step_C tab_ok (fun K hk => hk)) ?_
        refine reg_quiet rfl (step_C tab_ok (fun K hk => hk)) ?_
        refine reg_on rfl rfl (by assumption) ?_
        refine reg_quiet rfl (step_C tab_ok (fun K hk => hk)) ?_
        refine reg_on rfl rfl (by assumption) ?_
        refine reg_quiet rfl (load_box tab_ok rfl rfl ⟨_, rfl, rfl⟩ rfl) ?_
        refine reg_on rfl rfl (by assumption) ?_
        refine reg_quiet rfl (len_arr tab_ok rfl rfl) ?_
        refine reg_on rfl rfl (by assumption) ?_
        refine reg_quiet rfl (step_C tab_ok (fun K hk => hk)) ?_
        refine reg_on rfl rfl (by assumption) ?_
        refine reg_quiet rfl (load_box tab_ok rfl rfl ⟨_, rfl, rfl⟩ rfl) ?_
        refine reg_on rfl rfl (by assumption) ?_
        refine reg_quiet rfl (len_arr tab_ok rfl rfl) ?_
        refine reg_on rfl rfl (by assumption) ?_
        refine reg_quiet rfl (step_C tab_ok (fun K hk => hk)) ?_
        refine reg_quiet rfl (pick_F tab_ok rfl (by assumption) rfl) ?_
        refine reg_nil ?_
        refine seq_n ?_
        refine wc_true rfl (by assumption) ?_
        refine wc_region ?_
        refine reg_quiet rfl (step_C tab_ok (fun K hk => hk)) ?_
        refine reg_nil ?_
        refine mid_n () [(64, some 64), (65, some 65)] trivial ?_
        exact .of rfl rfl rfl rfl rfl ⟨⟨_, rfl, .refl _⟩, rfl, ⟨_, rfl, .refl _⟩, rfl, ⟨_, rfl, .refl _⟩, rfl, trivial⟩ ⟨⟨rfl, rfl, _, rfl, .refl _⟩, ⟨rfl, rfl, _, rfl, .refl _⟩, trivial⟩
    intro _ _
    refine wc_of ?_
    refine wc_seq ?_
    refine wc_draw (by kernel_rfl) ?_
    refine dreg_w [] [] rfl (make_full (enc := encBlock) (s := 32) (N := 1) tab_ok zeroBlock rfl rfl rfl rfl rfl rfl rfl (by decide) rfl) ?_
    refine dreg_w [] [] rfl (make_full (enc := encBlock) (s := 32) (N := 1) tab_ok zeroBlock rfl rfl rfl rfl rfl rfl rfl (by decide) rfl) ?_
    refine dreg_q [100, 101] [72, 80] rfl (build_struct tab_ok rfl rfl rfl rfl) ?_
    refine dreg_w [] [] rfl (step_C tab_ok (fun K hk => hk)) ?_
    refine dreg_s [10, 102] [96, 72, 80] (store_row tab_ok rfl rfl rfl ⟨_, ⟨rfl, rfl, rfl⟩, rfl⟩ rfl) ?_
    refine dreg_end (by kernel_rfl) ?_
    refine seq_n ?_
    refine wc_seq ?_
    refine wc_region ?_
    refine reg_quiet rfl (load_box tab_ok rfl rfl rfl rfl) ?_
    refine reg_quiet rfl (load_box tab_ok rfl rfl rfl rfl) ?_
    refine reg_quiet rfl (call_new hD rfl rfl (arg_e (arg_e arg_nil)) (.inl rfl) rfl rfl) ?_
    refine reg_quiet rfl (step_C tab_ok (fun K hk => hk)) ?_
    refine reg_quiet rfl (step_C tab_ok (fun K hk => hk)) ?_
    refine reg_quiet rfl (step_C tab_ok (fun K hk => hk)) ?_
    refine reg_quiet rfl (step_C tab_ok (fun K hk => hk)) ?_
    refine reg_new (step_C tab_ok (fun K hk => hk)) rfl ?_
    refine reg_new (step_C tab_ok (fun K hk => hk)) rfl ?_
    refine reg_store (store_row tab_ok rfl rfl rfl ⟨_, ⟨rfl, rfl, rfl⟩, rfl⟩ rfl) ?_
    refine reg_store (store_row tab_ok rfl rfl rfl ⟨_, ⟨rfl, rfl, rfl⟩, rfl⟩ rfl) ?_
    refine reg_quiet rfl (step_C tab_ok (fun K hk => hk)) ?_
    refine reg_nil ?_
    refine seq_n ?_
    refine wc_seq ?_
    refine wc_region ?_
    refine reg_quiet rfl (load_box tab_ok rfl rfl rfl rfl) ?_
    refine reg_quiet rfl (call_new hF rfl rfl (arg_e arg_nil) (.inl rfl) rfl rfl) ?_
    refine reg_quiet rfl (step_C tab_ok (fun K hk => hk)) ?_
    refine reg_quiet rfl (step_C tab_ok (fun K hk => hk)) ?_
    refine reg_quiet rfl (step_C tab_ok (fun K hk => hk)) ?_
    refine reg_new (step_C tab_ok (fun K hk => hk)) rfl ?_
    refine reg_store (store_row tab_ok rfl rfl rfl ⟨_, ⟨rfl, rfl, rfl⟩, rfl⟩ rfl) ?_
    refine reg_quiet rfl (step_C tab_ok (fun K hk => hk)) ?_
    refine reg_nil ?_
    refine seq_n ?_
    refine wc_seq ?_
    refine wc_region ?_
    refine reg_quiet rfl (load_box tab_ok rfl rfl rfl rfl) ?_
    refine reg_quiet rfl (call_new hC rfl rfl (arg_e arg_nil) (.inl rfl) rfl rfl) ?_
    refine reg_quiet rfl (step_C tab_ok (fun K hk => hk)) ?_
    refine reg_quiet rfl (step_C tab_ok (fun K hk => hk)) ?_
    refine reg_quiet rfl (step_C tab_ok (fun K hk => hk)) ?_
    refine reg_new (step_C tab_ok (fun K hk => hk)) rfl ?_
    refine reg_store (store_row tab_ok rfl rfl rfl ⟨_, ⟨rfl, rfl, rfl⟩, rfl⟩ rfl) ?_
    refine reg_quiet rfl (step_C tab_ok (fun K hk => hk)) ?_
    refine reg_nil ?_
    refine seq_n ?_
    refine wc_seq ?_
    refine wc_region ?_
    refine reg_quiet rfl (load_box tab_ok rfl rfl rfl rfl) ?_
    refine reg_quiet rfl (load_box tab_ok rfl rfl rfl rfl) ?_
    refine reg_new (build_list (enc := encOp) (s := 3) (xs := [⟨k, i, d⟩]) tab_ok rfl rfl rfl rfl rfl rfl rfl rfl rfl (fun _ => rfl) rfl) rfl ?_
    refine reg_quiet rfl (call_r hP rfl rfl (arg_e (arg_ownL rfl rfl arg_nil)) (.inr (errP_plain _)) (fun _ => rfl)) ?_
    refine reg_quiet rfl (step_C tab_ok (fun K hk => hk)) ?_
    refine reg_quiet rfl (step_C tab_ok (fun K hk => hk)) ?_
    refine reg_quiet rfl (step_C tab_ok (fun K hk => hk)) ?_
    refine reg_quiet rfl (step_C tab_ok (fun K hk => hk)) ?_
    refine reg_new (step_C tab_ok (fun K hk => hk)) rfl ?_
    refine reg_store (store_row tab_ok rfl rfl rfl ⟨_, ⟨rfl, rfl, rfl⟩, rfl⟩ rfl) ?_
    refine reg_quiet rfl (step_C tab_ok (fun K hk => hk)) ?_
    refine reg_quiet rfl (step_C tab_ok (fun K hk => hk)) ?_
    refine reg_nil ?_
    refine seq_n ?_
    refine wc_seq ?_
    refine wc_region ?_
    refine reg_quiet rfl (load_box tab_ok rfl rfl rfl rfl) ?_
    refine reg_quiet rfl (load_box tab_ok rfl rfl rfl rfl) ?_
    refine reg_quiet rfl (call_new hX rfl rfl (arg_e (arg_e arg_nil)) (.inl rfl) rfl rfl) ?_
    refine reg_quiet rfl (step_C tab_ok (fun K hk => hk)) ?_
    refine reg_quiet rfl (step_C tab_ok (fun K hk => hk)) ?_
    refine reg_quiet rfl (step_C tab_ok (fun K hk => hk)) ?_
    refine reg_quiet rfl (step_C tab_ok (fun K hk => hk)) ?_
    refine reg_quiet rfl (step_C tab_ok (fun K hk => hk)) ?_
    refine reg_nil ?_
    refine seq_n ?_
    refine wc_seq ?_
    refine wc_region ?_
    refine reg_quiet rfl (load_box tab_ok rfl rfl rfl rfl) ?_
    refine reg_quiet rfl (load_box tab_ok rfl rfl rfl rfl) ?_
    refine reg_quiet rfl (call_r hZ rfl rfl (arg_A rfl rfl rfl rfl (arg_e arg_nil)) (.inr (errL_plain _)) (fun _ => rfl)) ?_
    refine reg_quiet rfl (step_C tab_ok (fun K hk => hk)) ?_
    refine reg_quiet rfl (step_C tab_ok (fun K hk => hk)) ?_
    refine reg_quiet rfl (step_C tab_ok (fun K hk => hk)) ?_
    refine reg_quiet rfl (step_C tab_ok (fun K hk => hk)) ?_
    refine reg_quiet rfl (step_C tab_ok (fun K hk => hk)) ?_
    refine reg_nil ?_
    refine seq_n ?_
    refine wc_seq ?_
    refine wc_seq ?_
    refine wc_region ?_
    refine reg_quiet rfl (load_box tab_ok rfl rfl rfl rfl) ?_
    refine reg_quiet rfl (call_r hK rfl rfl (arg_e arg_nil) (.inl rfl) (fun _ => rfl)) ?_
    refine reg_quiet rfl (step_C tab_ok (fun K hk => hk)) ?_
    refine reg_quiet rfl (step_C tab_ok (fun K hk => hk)) ?_
    refine reg_quiet rfl (step_C tab_ok (fun K hk => hk)) ?_
    refine reg_on rfl rfl rfl ?_
    refine reg_quiet rfl (step_C tab_ok (fun K hk => hk)) ?_
    refine reg_on rfl rfl rfl ?_
    refine reg_quiet rfl (step_C tab_ok (fun K hk => hk)) ?_
    refine reg_on rfl rfl rfl ?_
    refine reg_quiet rfl (step_C tab_ok (fun K hk => hk)) ?_
    refine reg_quiet rfl (pick_F tab_ok rfl rfl rfl) ?_
    refine reg_quiet rfl (step_C tab_ok (fun K hk => hk)) ?_
    refine reg_on rfl rfl rfl ?_
    refine reg_quiet rfl (step_C tab_ok (fun K hk => hk)) ?_
    refine reg_on rfl rfl rfl ?_
    refine reg_quiet rfl (step_C tab_ok (fun K hk => hk)) ?_
    refine reg_on rfl rfl rfl ?_
    refine reg_quiet rfl (step_C tab_ok (fun K hk => hk)) ?_
    refine reg_quiet rfl (pick_F tab_ok rfl rfl rfl) ?_
    refine reg_quiet rfl (step_C tab_ok (fun K hk => hk)) ?_
    refine reg_on rfl rfl rfl ?_
    refine reg_quiet rfl (step_C tab_ok (fun K hk => hk)) ?_
    refine reg_on rfl rfl rfl ?_
    refine reg_quiet rfl (step_C tab_ok (fun K hk => hk)) ?_
    refine reg_on rfl rfl rfl ?_
    refine reg_quiet rfl (step_C tab_ok (fun K hk => hk)) ?_
    refine reg_quiet rfl (pick_F tab_ok rfl rfl rfl) ?_
    refine reg_quiet rfl (step_C tab_ok (fun K hk => hk)) ?_
    refine reg_on rfl rfl rfl ?_
    refine reg_quiet rfl (step_C tab_ok (fun K hk => hk)) ?_
    refine reg_on rfl rfl rfl ?_
    refine reg_quiet rfl (step_C tab_ok (fun K hk => hk)) ?_
    refine reg_on rfl rfl rfl ?_
    refine reg_quiet rfl (step_C tab_ok (fun K hk => hk)) ?_
    refine reg_quiet rfl (pick_F tab_ok rfl rfl rfl) ?_
    refine reg_quiet rfl (step_C tab_ok (fun K hk => hk)) ?_
    refine reg_on rfl rfl rfl ?_
    refine reg_quiet rfl (step_C tab_ok (fun K hk => hk)) ?_
    refine reg_on rfl rfl rfl ?_
    refine reg_quiet rfl (step_C tab_ok (fun K hk => hk)) ?_
    refine reg_on rfl rfl rfl ?_
    refine reg_quiet rfl (step_C tab_ok (fun K hk => hk)) ?_
    refine reg_quiet rfl (pick_F tab_ok rfl rfl rfl) ?_
    refine reg_quiet rfl (step_C tab_ok (fun K hk => hk)) ?_
    refine reg_on rfl rfl rfl ?_
    refine reg_quiet rfl (step_C tab_ok (fun K hk => hk)) ?_
    refine reg_on rfl rfl rfl ?_
    refine reg_quiet rfl (step_C tab_ok (fun K hk => hk)) ?_
    refine reg_on rfl rfl rfl ?_
    refine reg_quiet rfl (step_C tab_ok (fun K hk => hk)) ?_
    refine reg_on rfl rfl rfl ?_
    refine reg_quiet rfl (step_C tab_ok (fun K hk => hk)) ?_
    refine reg_on rfl rfl rfl ?_
    refine reg_quiet rfl (step_C tab_ok (fun K hk => hk)) ?_
    refine reg_skip rfl rfl rfl rfl rfl ?_
    refine reg_skip rfl rfl rfl rfl rfl ?_
    refine reg_skip rfl rfl rfl rfl rfl ?_
    refine reg_skip rfl rfl rfl rfl rfl ?_
    refine reg_on rfl rfl rfl ?_
    refine reg_quiet rfl (pick_F tab_ok rfl rfl rfl) ?_
    refine reg_on rfl rfl rfl ?_
    refine reg_quiet rfl (step_C tab_ok (fun K hk => hk)) ?_
    refine reg_quiet rfl (pick_F tab_ok rfl rfl rfl) ?_
    refine reg_quiet rfl (step_C tab_ok (fun K hk => hk)) ?_
    refine reg_on rfl rfl rfl ?_
    refine reg_quiet rfl (step_C tab_ok (fun K hk => hk)) ?_
    refine reg_on rfl rfl rfl ?_
    refine reg_quiet rfl (step_C tab_ok (fun K hk => hk)) ?_
    refine reg_on rfl rfl rfl ?_
    refine reg_quiet rfl (step_C tab_ok (fun K hk => hk)) ?_
    refine reg_on rfl rfl rfl ?_
    refine reg_quiet rfl (step_C tab_ok (fun K hk => hk)) ?_
    refine reg_on rfl rfl rfl ?_
    refine reg_quiet rfl (step_C tab_ok (fun K hk => hk)) ?_
    refine reg_on rfl rfl rfl ?_
    refine reg_quiet rfl (pick_T tab_ok rfl rfl rfl) ?_
    refine reg_quiet rfl (pick_F tab_ok rfl rfl rfl) ?_
    refine reg_nil ?_
    refine seq_n ?_
    refine wc_false rfl rfl ?_
    refine wc_skip ?_
    refine seq_n ?_
    refine wc_seq ?_
    refine wc_seq ?_
    refine wc_region ?_
    refine reg_quiet rfl (step_C tab_ok (fun K hk => hk)) ?_
    refine reg_quiet rfl (step_C tab_ok (fun K hk => hk)) ?_
    refine reg_nil ?_
    refine seq_n ?_
    refine wc_false rfl rfl ?_
    refine wc_skip ?_
    refine seq_n ?_
    refine wc_seq ?_
    refine wc_region ?_
    refine reg_quiet rfl (load_box tab_ok rfl rfl rfl rfl) ?_
    refine reg_quiet rfl (call_r hRd rfl rfl (arg_e (arg_e arg_nil)) (.inl rfl) (fun _ => rfl)) ?_
    refine reg_quiet rfl (step_C tab_ok (fun K hk => hk)) ?_
    refine reg_quiet rfl (step_C tab_ok (fun K hk => hk)) ?_
    refine reg_quiet rfl (step_C tab_ok (fun K hk => hk)) ?_
    refine reg_new (step_C tab_ok (fun K hk => hk)) rfl ?_
    refine reg_store (store_row tab_ok rfl rfl rfl ⟨_, ⟨rfl, rfl, rfl⟩, rfl⟩ rfl) ?_
    refine reg_quiet rfl (step_C tab_ok (fun K hk => hk)) ?_
    refine reg_nil ?_
    refine seq_n ?_
    refine wc_seq ?_
    refine wc_region ?_
    refine reg_quiet rfl (load_box tab_ok rfl rfl rfl rfl) ?_
    refine reg_quiet rfl (build_array tab_ok rfl rfl rfl) ?_
    refine reg_quiet rfl (call_r hWr rfl rfl (arg_e (arg_e (arg_e arg_nil))) (.inl rfl) (fun _ => rfl)) ?_
    refine reg_quiet rfl (step_C tab_ok (fun K hk => hk)) ?_
    refine reg_quiet rfl (step_C tab_ok (fun K hk => hk)) ?_
    refine reg_quiet rfl (step_C tab_ok (fun K hk => hk)) ?_
    refine reg_new (step_C tab_ok (fun K hk => hk)) rfl ?_
    refine reg_store (store_row tab_ok rfl rfl rfl ⟨_, ⟨rfl, rfl, rfl⟩, rfl⟩ rfl) ?_
    refine reg_quiet rfl (step_C tab_ok (fun K hk => hk)) ?_
    refine reg_nil ?_
    refine seq_n ?_
    refine wc_seq ?_
    refine wc_region ?_
    refine reg_quiet rfl (step_C tab_ok (fun K hk => hk)) ?_
    refine reg_quiet rfl (step_C tab_ok (fun K hk => hk)) ?_
    refine reg_quiet rfl (step_C tab_ok (fun K hk => hk)) ?_
    refine reg_quiet rfl (step_C tab_ok (fun K hk => hk)) ?_
    refine reg_on rfl rfl rfl ?_
    refine reg_quiet rfl (step_C tab_ok (fun K hk => hk)) ?_
    refine reg_on rfl rfl rfl ?_
    refine reg_quiet rfl (step_C tab_ok (fun K hk => hk)) ?_
    refine reg_on rfl rfl rfl ?_
    refine reg_quiet rfl (step_C tab_ok (fun K hk => hk)) ?_
    refine reg_quiet rfl (pick_T tab_ok rfl rfl rfl) ?_
    refine reg_quiet rfl (step_C tab_ok (fun K hk => hk)) ?_
    refine reg_on rfl rfl rfl ?_
    refine reg_quiet rfl (step_C tab_ok (fun K hk => hk)) ?_
    refine reg_on rfl rfl rfl ?_
    refine reg_quiet rfl (len_nil tab_ok rfl rfl) ?_
    refine reg_on rfl rfl rfl ?_
    refine reg_quiet rfl (step_C tab_ok (fun K hk => hk)) ?_
    refine reg_quiet rfl (pick_T tab_ok rfl rfl rfl) ?_
    refine reg_quiet rfl (step_C tab_ok (fun K hk => hk)) ?_
    refine reg_on rfl rfl rfl ?_
    refine reg_quiet rfl (load_box tab_ok rfl rfl rfl rfl) ?_
    refine reg_on rfl rfl rfl ?_
    refine reg_quiet rfl (build_struct tab_ok rfl rfl rfl rfl) ?_
    refine reg_on rfl rfl rfl ?_
    refine reg_quiet rfl (eql_data rfl rfl rfl rfl (by kernel_rfl) (by decide) (res_eq zeroRes zeroRes)) ?_
    refine reg_quiet rfl (pick_T tab_ok rfl rfl rfl) ?_
    refine reg_quiet rfl (step_C tab_ok (fun K hk => hk)) ?_
    refine reg_on rfl rfl rfl ?_
    refine reg_quiet rfl (call_r lives_is rfl rfl arg_nil (.inl rfl) (fun _ => rfl)) ?_
    refine reg_quiet rfl (pick_T tab_ok rfl rfl rfl) ?_
    refine reg_quiet rfl (step_C tab_ok (fun K hk => hk)) ?_
    refine reg_nil ?_
    refine seq_n ?_
    refine wc_ret ?_
    exact ⟨trivial, [], .of rfl rfl rfl rfl rfl ⟨⟨_, rfl, AVLe.of_eq rfl⟩, rfl, trivial⟩ trivial⟩
theorem err_long (n : Int) (p q : Blks) (k i : Int) (d : List Int) (h : p.length > 20 ∨ q.length > 20 ∨ d.length > 100) : FnIs Try.prog 5 [.d (encA p q), .d (encOp ⟨k, i, d⟩), .d (i6 n)] [] (.bool true) [] := by
  refine fnIs_of tab_ok Try.func5 rfl rfl rfl ?_
  by_cases h1 : p.length > 20
  · have g1 : decide ((p.length : Int) > 20) = true := decide_eq_true (by omega)
    refine wc_seq ?_
    refine wc_region ?_
    refine reg_new (step_C tab_ok (fun K hk => hk)) rfl ?_
    refine reg_new (step_C tab_ok (fun K hk => hk)) rfl ?_
    refine reg_quiet rfl (step_C tab_ok (fun K hk => hk)) ?_
    refine reg_nil ?_
    refine seq_n ?_
    refine wc_seq ?_
    refine wc_seq ?_
    refine wc_region ?_
    refine reg_quiet rfl (step_C tab_ok (fun K hk => hk)) ?_
    refine reg_quiet rfl (load_box tab_ok rfl rfl ⟨_, rfl, rfl⟩ rfl) ?_
    refine reg_quiet rfl (len_arr tab_ok rfl rfl) ?_
    refine reg_quiet rfl (step_C tab_ok (fun K hk => hk)) ?_
    refine reg_quiet rfl (step_C tab_ok (fun K hk => hk)) ?_
    refine reg_skip rfl rfl (by assumption) rfl rfl ?_
    refine reg_skip rfl rfl (by assumption) rfl rfl ?_
    refine reg_skip rfl rfl (by assumption) rfl rfl ?_
    refine reg_skip rfl rfl (by assumption) rfl rfl ?_
    refine reg_quiet rfl (pick_T tab_ok rfl (by assumption) rfl) ?_
    refine reg_quiet rfl (step_C tab_ok (fun K hk => hk)) ?_
    refine reg_skip rfl rfl rfl rfl rfl ?_
    refine reg_skip rfl rfl rfl rfl rfl ?_
    refine reg_skip rfl rfl rfl rfl rfl ?_
    refine reg_skip rfl rfl rfl rfl rfl ?_
    refine reg_quiet rfl (pick_T tab_ok rfl rfl rfl) ?_
    refine reg_nil ?_
    refine seq_n ?_
    refine wc_true rfl rfl ?_
    refine wc_seq ?_
    refine wc_region ?_
    refine reg_quiet rfl (call_r lives_is rfl rfl arg_nil (.inl rfl) (fun _ => rfl)) ?_
    refine reg_quiet rfl (step_C tab_ok (fun K hk => hk)) ?_
    refine reg_nil ?_
    refine seq_n ?_
    refine wc_ret ?_
    refine seq_r ?_
    exact ⟨trivial, [], .of rfl rfl rfl rfl rfl ⟨⟨_, rfl, AVLe.of_eq rfl⟩, rfl, trivial⟩ trivial⟩
  · have g1 : decide ((p.length : Int) > 20) = false := decide_eq_false (by omega)
    by_cases h2 : q.length > 20
    · have g2 : decide ((q.length : Int) > 20) = true := decide_eq_true (by omega)
      refine wc_seq ?_
      refine wc_region ?_
      refine reg_new (step_C tab_ok (fun K hk => hk)) rfl ?_
      refine reg_new (step_C tab_ok (fun K hk => hk)) rfl ?_
      refine reg_quiet rfl (step_C tab_ok (fun K hk => hk)) ?_
      refine reg_nil ?_
      refine seq_n ?_
      refine wc_seq ?_
      refine wc_seq ?_
      refine wc_region ?_
      refine reg_quiet rfl (step_C tab_ok (fun K hk => hk)) ?_
      refine reg_quiet rfl (load_box tab_ok rfl rfl ⟨_, rfl, rfl⟩ rfl) ?_
      refine reg_quiet rfl (len_arr tab_ok rfl rfl) ?_
      refine reg_quiet rfl (step_C tab_ok (fun K hk => hk)) ?_
      refine reg_quiet rfl (step_C tab_ok (fun K hk => hk)) ?_
      refine reg_on rfl rfl (by assumption) ?_
      refine reg_quiet rfl (step_C tab_ok (fun K hk => hk)) ?_
      refine reg_on rfl rfl (by assumption) ?_
      refine reg_quiet rfl (load_box tab_ok rfl rfl ⟨_, rfl, rfl⟩ rfl) ?_
      refine reg_on rfl rfl (by assumption) ?_
      refine reg_quiet rfl (len_arr tab_ok rfl rfl) ?_
      refine reg_on rfl rfl (by assumption) ?_
      refine reg_quiet rfl (step_C tab_ok (fun K hk => hk)) ?_
      refine reg_quiet rfl (pick_F tab_ok rfl (by assumption) rfl) ?_
      refine reg_quiet rfl (step_C tab_ok (fun K hk => hk)) ?_
      refine reg_skip rfl rfl (by assumption) rfl rfl ?_
      refine reg_skip rfl rfl (by assumption) rfl rfl ?_
      refine reg_skip rfl rfl (by assumption) rfl rfl ?_
      refine reg_skip rfl rfl (by assumption) rfl rfl ?_
      refine reg_quiet rfl (pick_T tab_ok rfl (by assumption) rfl) ?_
      refine reg_nil ?_
      refine seq_n ?_
      refine wc_true rfl rfl ?_
      refine wc_seq ?_
      refine wc_region ?_
      refine reg_quiet rfl (call_r lives_is rfl rfl arg_nil (.inl rfl) (fun _ => rfl)) ?_
      refine reg_quiet rfl (step_C tab_ok (fun K hk => hk)) ?_
      refine reg_nil ?_
      refine seq_n ?_
      refine wc_ret ?_
      refine seq_r ?_
      exact ⟨trivial, [], .of rfl rfl rfl rfl rfl ⟨⟨_, rfl, AVLe.of_eq rfl⟩, rfl, trivial⟩ trivial⟩
    · have g2 : decide ((q.length : Int) > 20) = false := decide_eq_false (by omega)
      have g3 : decide ((d.length : Int) > 100) = true := decide_eq_true (by omega)
      refine wc_seq ?_
      refine wc_region ?_
      refine reg_new (step_C tab_ok (fun K hk => hk)) rfl ?_
      refine reg_new (step_C tab_ok (fun K hk => hk)) rfl ?_
      refine reg_quiet rfl (step_C tab_ok (fun K hk => hk)) ?_
      refine reg_nil ?_
      refine seq_n ?_
      refine wc_seq ?_
      refine wc_seq ?_
      refine wc_region ?_
      refine reg_quiet rfl (step_C tab_ok (fun K hk => hk)) ?_
      refine reg_quiet rfl (load_box tab_ok rfl rfl ⟨_, rfl, rfl⟩ rfl) ?_
      refine reg_quiet rfl (len_arr tab_ok rfl rfl) ?_
      refine reg_quiet rfl (step_C tab_ok (fun K hk => hk)) ?_
      refine reg_quiet rfl (step_C tab_ok (fun K hk => hk)) ?_
      refine reg_on rfl rfl (by assumption) ?_
      refine reg_quiet rfl (step_C tab_ok (fun K hk => hk)) ?_
      refine reg_on rfl rfl (by assumption) ?_
      refine reg_quiet rfl (load_box tab_ok rfl rfl ⟨_, rfl, rfl⟩ rfl) ?_
      refine reg_on rfl rfl (by assumption) ?_
      refine reg_quiet rfl (len_arr tab_ok rfl rfl) ?_
      refine reg_on rfl rfl (by assumption) ?_
      refine reg_quiet rfl (step_C tab_ok (fun K hk => hk)) ?_
      refine reg_quiet rfl (pick_F tab_ok rfl (by assumption) rfl) ?_
      refine reg_quiet rfl (step_C tab_ok (fun K hk => hk)) ?_
      refine reg_on rfl rfl (by assumption) ?_
      refine reg_quiet rfl (step_C tab_ok (fun K hk => hk)) ?_
      refine reg_on rfl rfl (by assumption) ?_
      refine reg_quiet rfl (load_box tab_ok rfl rfl ⟨_, rfl, rfl⟩ rfl) ?_
      refine reg_on rfl rfl (by assumption) ?_
      refine reg_quiet rfl (len_arr tab_ok rfl rfl) ?_
      refine reg_on rfl rfl (by assumption) ?_
      refine reg_quiet rfl (step_C tab_ok (fun K hk => hk)) ?_
      refine reg_quiet rfl (pick_F tab_ok rfl (by assumption) rfl) ?_
      refine reg_nil ?_
      refine seq_n ?_
      refine wc_true rfl (by assumption) ?_
      refine wc_seq ?_
      refine wc_region ?_
      refine reg_quiet rfl (call_r lives_is rfl rfl arg_nil (.inl rfl) (fun _ => rfl)) ?_
      refine reg_quiet rfl (step_C tab_ok (fun K hk => hk)) ?_
      refine reg_nil ?_
      refine seq_n ?_
      refine wc_ret ?_
      refine seq_r ?_
      exact ⟨trivial, [], .of rfl rfl rfl rfl rfl ⟨⟨_, rfl, AVLe.of_eq rfl⟩, rfl, trivial⟩ trivial⟩
theorem resL_one (x : Blks × Blks) (o : Oper) : resL x [o] = [doR x.1 o] := rfl
theorem arraysErrors_is (p q : Blks) (o : Oper) (n : Int) (hp : ∀ y ∈ p, y.length = 32) (hq : ∀ y ∈ q, y.length = 32) : FnIs Try.prog 5 [.d (encA p q), .d (encOp o), .d (i6 n)] [] (.bool true) [] := by
  have hB1 := bad_is n o
  have hB2 := refbad_is n o
  obtain ⟨k, i, d⟩ := o
  by_cases hl : p.length > 20 ∨ q.length > 20 ∨ d.length > 100
  · exact err_long n p q k i d hl
  have lp : p.length ≤ 20 := by omega
  have lq : q.length ≤ 20 := by omega
  have ld : d.length ≤ 100 := by omega
  have hNew : (badN n = true ∧ FnIs Try.prog 15 [.d (i6 n)] [] (.tup (.acons (.d zeroA) (.acons (.int .i64 1) .anil))) []) ∨ (badN n = false ∧ ∃ M : Nat, FnIs Try.prog 15 [.d (i6 n)] [] (okT M none M none) [(64, rowB true (zeros M)), (65, rowB true (zeros M))]) := by
    cases hb : badN n with
    | true => exact .inl ⟨rfl, new_bad n hb⟩
    | false =>
      refine .inr ⟨rfl, n.toNat, ?_⟩
      have hn : ((n.toNat : Nat) : Int) = n := by
        have := of_decide_eq_false (Bool.or_eq_false_iff.mp hb).1
        omega
      have h := new_ok n.toNat (by rw [hn]; exact hb)
      rw [hn] at h
      exact h
  have hK := check_is p q
  have h1 : okA (zeros 1) (zeros 1) = true := by decide
  by_cases h0 : p.length = 0 ∨ p.length ≠ q.length
  · have hO : okA p q = false := by
      rw [okA, Bool.and_eq_false_iff]
      rcases h0 with h0 | h0
      · left
        rw [h0]
        rfl
      · right
        exact decide_eq_false (by omega)
    rw [hO, if_neg (by simp)] at hK
    have hat : atE p q 0 ≠ 0 := by unfold atE; simp [hO]
    exact err_bad n p q k i d _ lp lq ld hNew hB1 hB2 h0 hK (Do_bad p q _ hO) (flush_bad p q hO) (crash_bad p q hO) (play_bad p q _ hO) (differ_bad1 p q p q hO) (differ_bad2 _ _ p q h1 hO) (read_bad p q 0 hat) (write_bad p q 0 zeroBlock hat)
  · have hpq : p.length = q.length := by omega
    have hO : okA p q = true := okA_of (N := p.length) rfl hpq (by omega) (by omega)
    rw [hO, if_pos rfl] at hK
    have hF := flush_ok p q hO
    have hC := crash_ok p q hO
    have hP := play_ok p q [⟨k, i, d⟩] p.length ⟨rfl, hpq.symm, hp, hq⟩ hO (decide_eq_false (by simp))
    rw [resL_one] at hP
    simp only [okR, ← hpq] at hF hC
    refine err_ok n p q k i d _ lp lq ld hNew hB1 hB2 p.length _ _ _ _ _ _ _ (by omega) hpq hK (Do_N _ rfl hpq (by omega) (by omega)) hF hC hP (differ_ok p q p q hO hO rfl) ?_
    by_cases hz : p.length = 1
    · exact .inl ⟨hz, _, _, differ_ok _ _ p q h1 hO (by rw [hz]; rfl)⟩
    · refine .inr ⟨hz, differ_len _ _ p q h1 hO (decide_eq_false ?_)⟩
      rw [show (zeros 1).length = 1 from rfl]
      omega
end Go.Proofs.Ytjpjchohpjbknaa

/- ArraysPlay: the array after any operations, and their results, are those of the definition. -/
namespace Go.Proofs.Ytjpjchohpjbknaa
open Go.Eng
set_option maxHeartbeats 4000000
set_option maxRecDepth 4000
attribute [local irreducible] WC RegS RegD SeqQ BlkQ ScoQ RegK CutK Sat SatN FnIs LoopQ StepIs OpIs
theorem arg_giveA {look : Nat → Option Row} {ρ : Nat → Option Nat} {r1 k1 r2 k2 n1 n2 : Nat} {c1 c2 : Option Nat} {bs avs : List AV} (h1 : ρ r1 = some k1) (h2 : ρ r2 = some k2) (b1 : Nat.blt r1 64 = true) (b2 : Nat.blt r2 64 = true) (ht : ArgsA look ρ bs avs) :
    ArgsA look ρ (ownA k1 n1 c1 k2 n2 c2 :: bs) (ownA r1 n1 c1 r2 n2 c2 :: avs) :=
  ⟨_, avs, rfl, ⟨rfl, by simp [AV.lt, b1, b2]⟩, AVLe.of_eq (by simp only [AV.ren, h1, h2]), ht⟩
theorem refT_plain (n m : Nat) (c c2 : Option Nat) (v : List Int) (e : Int) (a b : Blks) (e1 e2 : Bool) : PlainRes (tup3 (ownA 64 n c 65 m c2) (.d (encBlock v)) (.int .i64 e)) [(64, rowB e1 a), (65, rowB e2 b)] :=
  .of ⟨⟨trivial, trivial, trivial⟩, block_plain _, trivial, trivial⟩ (rows_plain _ _ _ _)
theorem sameS {N : Nat} (a b : Blks) (la : N = a.length) (lb : N = b.length) (hN : N ≤ 4096) (c1 c2 : Option Nat) (e1 e2 e3 e4 : Bool) : FnIs Try.prog 16 [ownA 0 N (some N) 1 N (some N), ownA 2 N c1 3 N c2] (sameRows a b a b e1 e2 e3 e4) (.int .i64 1) (sameRows a b a b e1 e2 e3 e4) := by
  have h := lawsame_some a b a b c1 c2 e1 e2 e3 e4 (by omega) (by omega) (by omega) (by omega)
  rw [if_pos (by simp), ← la, ← lb] at h
  exact h
theorem sameN {N : Nat} (a b : Blks) (la : N = a.length) (lb : N = b.length) (hN : N ≤ 4096) (c1 c2 : Option Nat) (e3 e4 : Bool) : FnIs Try.prog 16 [ownA 0 N none 1 N none, ownA 2 N c1 3 N c2] (sameRows a b a b true true e3 e4) (.int .i64 1) (sameRows a b a b true true e3 e4) := by
  have h := lawsame_none a b a b c1 c2 e3 e4 (by omega) (by omega) (by omega) (by omega)
  rw [if_pos (by simp), ← la, ← lb] at h
  exact h
theorem play_core (x : D) (N L : Nat) (z : Blks) (ops : List Oper) (rs : List Res) (fa fb : Nat → Blks) (hx : ∃ a b, x = .cons (u8s a) (.cons (.arr 3 encT b) .nil))
    (lz : N = z.length) (hN : N ≤ 20) (lL : L = ops.length) (lr : L = rs.length) (hL : L ≤ 30)
    (hO : FnIs Try.prog 14 [.d x] [] (.tup (.acons (.int .i64 N) (.acons (.own 64 0 L 3 none) .anil))) [(64, .ds 47 3 false encOp ops)])
    (hNw : FnIs Try.prog 15 [.d (i6 N)] [] (okT N none N none) [(64, rowB true z), (65, rowB true z)])
    (hR : FnIs Try.prog 17 [.d (i6 N)] [] (ownA 64 N none 65 N none) [(64, rowB true z), (65, rowB true z)])
    (hP : FnIs Try.prog 18 [.d (encA z z), .d (.arr 3 encOp ops)] [] (tup3 (ownA 64 N (some N) 65 N (some N)) (.own 66 0 L 33 none) (.int .i64 0)) [(64, rowB false (fa L)), (65, rowB false (fb L)), (66, .ds 49 33 true encRes rs)])
    (hK : FnIs Try.prog 22 [.d (encA (fa L) (fb L))] [] (.int .i64 0) [])
    (la : ∀ i, N = (fa i).length) (lb : ∀ i, N = (fb i).length) (ha0 : fa 0 = z) (hb0 : fb 0 = z)
    (step : ∀ i o, ops[i]? = some o → ∃ v e b, rs[i]? = some ⟨v, e⟩ ∧
      FnIs Try.prog 19 [.d (encA (fa i) (fb i)), .d (encOp o)] [] (tup3 (ownA 64 N none 65 N none) (.d (encBlock v)) (.int .i64 e)) [(64, rowB false (fa (i + 1))), (65, rowB false (fb (i + 1)))] ∧
      FnIs Try.prog 20 [.d (encA (fa i) (fb i)), .d (encOp o)] [] (tup3 (ownA 64 N (some N) 65 N (some N)) (.d (encRes ⟨v, e⟩)) (.int .i64 0)) [(64, rowB false (fa (i + 1))), (65, rowB false (fb (i + 1)))] ∧
      FnIs Try.prog 21 [.d (i6 N), .d (encOp o)] [] (.bool b) [] ∧ (b != !decide (e = 0)) = false) :
    FnIs Try.prog 3 [.d x] [] (.bool true) [] := by
  obtain ⟨xa, xb, rfl⟩ := hx
  have hN4 : N ≤ 4096 := by omega
  have l5 := la L
  have l6 := lb L
  have g1 : (!decide ((L : Int) = (L : Int))) = false := by simp
  have g2 : (!decide ((rs.length : Int) = (L : Int))) = false := by rw [← lr]; simp
  refine fnIs_of tab_ok Try.func3 rfl rfl rfl ?_
  refine wc_seq ?_
  refine wc_region ?_
  refine reg_new (step_C tab_ok (fun K hk => hk)) rfl ?_
  refine reg_quiet rfl (step_C tab_ok (fun K hk => hk)) ?_
  refine reg_nil ?_
  refine seq_n ?_
  refine wc_seq ?_
  refine wc_region ?_
  refine reg_quiet rfl (load_box tab_ok rfl rfl rfl rfl) ?_
  refine reg_new (call_new hO rfl rfl (arg_e arg_nil) (.inl rfl) rfl rfl) rfl ?_
  refine reg_quiet rfl (step_C tab_ok (fun K hk => hk)) ?_
  refine reg_quiet rfl (step_C tab_ok (fun K hk => hk)) ?_
  refine reg_quiet rfl (step_C tab_ok (fun K hk => hk)) ?_
  refine reg_quiet rfl (step_C tab_ok (fun K hk => hk)) ?_
  refine reg_quiet rfl (step_C tab_ok (fun K hk => hk)) ?_
  refine reg_nil ?_
  refine seq_n ?_
  refine wc_seq ?_
  refine wc_region ?_
  refine reg_quiet rfl (step_C tab_ok (fun K hk => hk)) ?_
  refine reg_new2 (call_new hNw rfl rfl (arg_e arg_nil) (.inl rfl) rfl rfl) rfl ?_
  refine reg_quiet rfl (step_C tab_ok (fun K hk => hk)) ?_
  refine reg_quiet rfl (step_C tab_ok (fun K hk => hk)) ?_
  refine reg_quiet rfl (step_C tab_ok (fun K hk => hk)) ?_
  refine reg_new (step_C tab_ok (fun K hk => hk)) rfl ?_
  refine reg_store (store_row tab_ok rfl rfl rfl ⟨_, ⟨rfl, rfl, rfl⟩, rfl⟩ rfl) ?_
  refine reg_quiet rfl (step_C tab_ok (fun K hk => hk)) ?_
  refine reg_nil ?_
  refine seq_n ?_
  refine wc_seq ?_
  refine wc_seq ?_
  refine wc_draw (by kernel_rfl) ?_
  refine dreg_q [6] [] rfl (step_C tab_ok (fun K hk => hk)) ?_
  refine dreg_q [25] [] rfl (step_C tab_ok (fun K hk => hk)) ?_
  refine dreg_q [26] [] rfl (step_C tab_ok (fun K hk => hk)) ?_
  refine dreg_onq [27, 5] [176, 144, 145] rfl rfl rfl rfl (load_box tab_ok rfl rfl rfl rfl) ?_
  refine dreg_onq [27, 3] [] rfl rfl rfl rfl (step_C tab_ok (fun K hk => hk)) ?_
  refine dreg_onw2 [27, 29] [] rfl rfl rfl rfl (call_new hR rfl rfl (arg_e arg_nil) (.inl rfl) rfl rfl) ?_
  refine dreg_on rfl rfl rfl rfl (call_h [(0, some 144), (1, some 145), (2, some 240), (3, some 241)] (sameN z z lz lz hN4 none none true true) rfl rfl rfl (arg_giveA rfl rfl rfl rfl (arg_giveA rfl rfl rfl rfl arg_nil)) ⟨⟨rfl, rfl, _, _, rfl, rfl, .refl _⟩, ⟨rfl, rfl, _, _, rfl, rfl, .refl _⟩, ⟨rfl, rfl, _, _, rfl, rfl, .refl _⟩, ⟨rfl, rfl, _, _, rfl, rfl, .refl _⟩, trivial⟩ rfl rfl (.inl rfl) rfl rfl) rfl rfl ?_
  refine dreg_onq [27, 31] [] rfl rfl rfl rfl (step_C tab_ok (fun K hk => hk)) ?_
  refine dreg_q [27, 32] [] rfl (pick_F tab_ok rfl rfl rfl) ?_
  refine dreg_end (by kernel_rfl) ?_
  refine seq_n ?_
  refine wc_false rfl rfl ?_
  refine wc_skip ?_
  refine seq_n ?_
  refine wc_seq ?_
  refine wc_region ?_
  refine reg_quiet rfl (load_box tab_ok rfl rfl rfl rfl) ?_
  refine reg_quiet rfl (step_C tab_ok (fun K hk => hk)) ?_
  refine reg_do rfl (call_new hP rfl rfl (arg_A rfl rfl lz lz (arg_ownL rfl lL arg_nil)) (.inr (play_plain _ _ _ _ _ _ _ _ _ _ _ _ _)) rfl rfl) rfl rfl ?_
  refine reg_quiet rfl (step_C tab_ok (fun K hk => hk)) ?_
  refine reg_quiet rfl (step_C tab_ok (fun K hk => hk)) ?_
  refine reg_quiet rfl (step_C tab_ok (fun K hk => hk)) ?_
  refine reg_quiet rfl (step_C tab_ok (fun K hk => hk)) ?_
  refine reg_new (step_C tab_ok (fun K hk => hk)) rfl ?_
  refine reg_store (store_row tab_ok rfl rfl rfl ⟨_, ⟨rfl, rfl, rfl⟩, rfl⟩ rfl) ?_
  refine reg_quiet rfl (step_C tab_ok (fun K hk => hk)) ?_
  refine reg_quiet rfl (step_C tab_ok (fun K hk => hk)) ?_
  refine reg_nil ?_
  refine seq_n ?_
  refine wc_seq ?_
  refine wc_seq ?_
  refine wc_region ?_
  refine reg_quiet rfl (step_C tab_ok (fun K hk => hk)) ?_
  refine reg_quiet rfl (step_C tab_ok (fun K hk => hk)) ?_
  refine reg_quiet rfl (step_C tab_ok (fun K hk => hk)) ?_
  refine reg_on rfl rfl rfl ?_
  refine reg_quiet rfl (step_C tab_ok (fun K hk => hk)) ?_
  refine reg_on rfl rfl rfl ?_
  refine reg_quiet rfl (len_own tab_ok rfl rfl) ?_
  refine reg_on rfl rfl rfl ?_
  refine reg_quiet rfl (step_C tab_ok (fun K hk => hk)) ?_
  refine reg_on rfl rfl rfl ?_
  refine reg_quiet rfl (len_own tab_ok rfl rfl) ?_
  refine reg_on rfl rfl rfl ?_
  refine reg_quiet rfl (step_C tab_ok (fun K hk => hk)) ?_
  refine reg_quiet rfl (pick_F tab_ok rfl rfl rfl) ?_
  refine reg_quiet rfl (step_C tab_ok (fun K hk => hk)) ?_
  refine reg_on rfl rfl (by assumption) ?_
  refine reg_quiet rfl (step_C tab_ok (fun K hk => hk)) ?_
  refine reg_on rfl rfl (by assumption) ?_
  refine reg_quiet rfl (cap_exact tab_ok rfl rfl rfl) ?_
  refine reg_on rfl rfl (by assumption) ?_
  refine reg_quiet rfl (step_C tab_ok (fun K hk => hk)) ?_
  refine reg_on rfl rfl (by assumption) ?_
  refine reg_quiet rfl (len_own tab_ok rfl rfl) ?_
  refine reg_on rfl rfl (by assumption) ?_
  refine reg_quiet rfl (step_C tab_ok (fun K hk => hk)) ?_
  refine reg_quiet rfl (pick_F tab_ok rfl (by assumption) rfl) ?_
  refine reg_nil ?_
  refine seq_n ?_
  refine wc_false rfl (by assumption) ?_
  refine wc_skip ?_
  refine seq_n ?_
  refine wc_seq ?_
  refine wc_region ?_
  refine reg_quiet rfl (load_box tab_ok rfl rfl rfl rfl) ?_
  refine reg_new (step_C tab_ok (fun K hk => hk)) rfl ?_
  refine reg_store (store_row tab_ok rfl rfl rfl ⟨_, ⟨rfl, rfl, rfl⟩, rfl⟩ rfl) ?_
  refine reg_nil ?_
  refine seq_n ?_
  refine wc_seq ?_
  refine wc_region ?_
  refine reg_quiet rfl (step_C tab_ok (fun K hk => hk)) ?_
  refine reg_new2 (call_new hR rfl rfl (arg_e arg_nil) (.inl rfl) rfl rfl) rfl ?_
  refine reg_new (step_C tab_ok (fun K hk => hk)) rfl ?_
  refine reg_store (store_row tab_ok rfl rfl rfl ⟨_, ⟨rfl, rfl, rfl⟩, rfl⟩ rfl) ?_
  refine reg_nil ?_
  refine seq_n ?_
  refine wc_seq ?_
  refine wc_seq ?_
  refine wc_region ?_
  refine reg_quiet rfl (step_C tab_ok (fun K hk => hk)) ?_
  refine reg_nil ?_
  refine seq_n ?_
  refine wc_block ?_
  refine wc_inv (Sum.elim (fun _ : Unit => (⟨[(11, .int .i64 0), (3, .int .i64 N), (4, .own 64 0 L 3 none), (8, .own 65 0 L 33 none), (5, .ptr 66 []), (7, .ptr 67 []), (9, .ptr 68 []), (10, .ptr 69 [])], [(64, some (.ds 47 3 false encOp ops)), (65, some (.ds 49 33 true encRes rs)), (66, some (.box 30 (ownA 70 N none 71 N none))), (67, some (.box 30 (ownA 72 N (some N) 73 N (some N)))), (68, some (.box 30 (ownA 70 N none 71 N none))), (69, some (.box 35 (ownA 74 N none 75 N none))), (70, some (rowB true z)), (71, some (rowB true z)), (72, some (rowB false (fa L))), (73, some (rowB false (fb L))), (74, some (rowB true (fa 0))), (75, some (rowB true (fb 0)))], 80, Try.f3.ntmps, 64⟩ : St)) (fun j : Nat => (⟨[(11, .int .i64 ((j + 1 : Nat) : Int)), (3, .int .i64 N), (4, .own 64 0 L 3 none), (8, .own 65 0 L 33 none), (5, .ptr 66 []), (7, .ptr 67 []), (9, .ptr 68 []), (10, .ptr 69 [])], [(64, some (.ds 47 3 false encOp ops)), (65, some (.ds 49 33 true encRes rs)), (66, some (.box 30 (ownA 70 N none 71 N none))), (67, some (.box 30 (ownA 72 N (some N) 73 N (some N)))), (68, some (.box 30 (ownA 76 N (some N) 77 N (some N)))), (69, some (.box 35 (ownA 74 N none 75 N none))), (70, some (rowB true z)), (71, some (rowB true z)), (72, some (rowB false (fa L))), (73, some (rowB false (fb L))), (74, some (rowB false (fa (j + 1)))), (75, some (rowB false (fb (j + 1)))), (76, some (rowB false (fa (j + 1)))), (77, some (rowB false (fb (j + 1))))], 80, Try.f3.ntmps, 64⟩ : St))) (Sum.elim (fun _ => True) (fun j => j + 1 ≤ L)) (Sum.elim (fun _ => L) (fun j => L - (j + 1))) (Sum.inl ()) [(64, some 88), (65, some 290), (66, some 176), (67, some 328), (68, some 496), (69, some 528), (70, some 144), (71, some 145), (72, some 288), (73, some 289), (74, some 520), (75, some 521)] trivial
    (.of rfl rfl rfl rfl rfl ⟨⟨_, rfl, .refl _⟩, rfl, ⟨_, rfl, .refl _⟩, rfl, ⟨_, rfl, .refl _⟩, rfl, ⟨_, rfl, .refl _⟩, rfl, ⟨_, rfl, .refl _⟩, rfl, ⟨_, rfl, .refl _⟩, rfl, ⟨_, rfl, .refl _⟩, rfl, ⟨_, rfl, .refl _⟩, rfl, trivial⟩ ⟨⟨rfl, rfl, _, rfl, .refl _⟩, ⟨rfl, rfl, _, rfl, .refl _⟩, ⟨rfl, rfl, _, rfl, .refl _⟩, ⟨rfl, rfl, _, rfl, .refl _⟩, ⟨rfl, rfl, _, rfl, .refl _⟩, ⟨rfl, rfl, _, rfl, .refl _⟩, ⟨rfl, rfl, _, rfl, .refl _⟩, ⟨rfl, rfl, _, rfl, .refl _⟩, ⟨rfl, rfl, _, rfl, .refl _⟩, ⟨rfl, rfl, _, rfl, .refl _⟩, ⟨rfl, rfl, _, rfl, .of_eq (by rw [ha0]; rfl)⟩, ⟨rfl, rfl, _, rfl, .of_eq (by rw [hb0]; rfl)⟩, trivial⟩) ?_
  rintro (u | j) hi
  · refine wc_of ?_
    refine wc_seq ?_
    refine wc_seq ?_
    refine wc_region ?_
    refine reg_quiet rfl (step_C tab_ok (fun K hk => hk)) ?_
    refine reg_quiet rfl (step_C tab_ok (fun K hk => hk)) ?_
    refine reg_quiet rfl (len_own tab_ok rfl rfl) ?_
    refine reg_quiet rfl (step_C tab_ok (fun K hk => hk)) ?_
    refine reg_nil ?_
    refine seq_n ?_
    refine wc_cond rfl (fun h3 => ?_) (fun h3 => ?_)
    · have hlt : 0 < L := by have := of_decide_eq_true h3; omega
      obtain ⟨o, ho0⟩ : ∃ o, ops[0]? = some o := ⟨_, List.getElem?_eq_getElem (by omega)⟩
      obtain ⟨v, e, b, hr0, h19, h20, h21, hb⟩ := step _ o ho0
      have ho : ops[(0 : Int).toNat]? = some o := ho0; have hr : rs[(0 : Int).toNat]? = some ⟨v, e⟩ := hr0; have l1 := la 0; have l2 := lb 0; have m1 := lz; have m2 := lz; rw [ha0, hb0] at h20; have l3 := la (0 + 1); have l4 := lb (0 + 1); obtain ⟨ga, hga⟩ : ∃ t, t = fa (0 + 1) := ⟨_, rfl⟩; obtain ⟨gb, hgb⟩ : ∃ t, t = fb (0 + 1) := ⟨_, rfl⟩; rw [← hga] at l3 h19 h20; rw [← hgb] at l4 h19 h20
      have f1 : (!decide ((⟨v, e⟩ : Res) = ⟨v, e⟩)) = false := by simp
      have f2 : (!decide (v = v)) = false := by simp
      have f3 : (!decide (e = e)) = false := by simp
      refine wc_skip ?_
      refine seq_n ?_
      refine wc_seq ?_
      refine wc_block ?_
      refine wc_seq ?_
      refine wc_region ?_
      refine reg_new (step_C tab_ok (fun K hk => hk)) rfl ?_
      refine reg_nil ?_
      refine seq_n ?_
      refine wc_seq ?_
      refine wc_region ?_
      refine reg_quiet rfl (step_C tab_ok (fun K hk => hk)) ?_
      refine reg_nil ?_
      refine seq_n ?_
      refine wc_seq ?_
      refine wc_draw (by kernel_rfl) ?_
      refine dreg_q [10] [69, 74, 75] rfl (load_box tab_ok rfl rfl rfl rfl) ?_
      refine dreg_q [4] [64] rfl (step_C tab_ok (fun K hk => hk)) ?_
      refine dreg_q [11] [] rfl (step_C tab_ok (fun K hk => hk)) ?_
      refine dreg_q [68, 69] [64] rfl (index_own tab_ok rfl rfl rfl rfl rfl (by omega) (by omega)) ?_
      refine dreg_q [70] [64] rfl (load_row (v := .d (encOp o)) tab_ok rfl rfl ⟨rfl, o, ho, encOp o, rfl, rfl⟩ rfl) ?_
      refine dreg_w2 [67, 71] [74, 75] rfl (call_new h19 rfl rfl (arg_A rfl rfl l1 l2 (arg_e arg_nil)) (.inr (refT_plain _ _ _ _ _ _ _ _ _ _)) rfl rfl) ?_
      refine dreg_q [72] [168, 169] rfl (step_C tab_ok (fun K hk => hk)) ?_
      refine dreg_q [66] [168, 169] rfl (step_C tab_ok (fun K hk => hk)) ?_
      refine dreg_q [66] [168, 169] rfl (step_C tab_ok (fun K hk => hk)) ?_
      refine dreg_q [66] [168, 169] rfl (step_C tab_ok (fun K hk => hk)) ?_
      refine dreg_s [10, 73] [69, 168, 169, 74, 75] (store_row tab_ok rfl rfl rfl ⟨_, ⟨rfl, rfl, rfl⟩, rfl⟩ rfl) ?_
      refine dreg_s [12, 74] [112] (store_row tab_ok rfl rfl rfl ⟨_, ⟨rfl, rfl, rfl⟩, rfl⟩ rfl) ?_
      refine dreg_q [75] [] rfl (step_C tab_ok (fun K hk => hk)) ?_
      refine dreg_end (by kernel_rfl) ?_
      refine seq_n ?_
      refine wc_seq ?_
      refine wc_region ?_
      refine reg_new (step_C tab_ok (fun K hk => hk)) rfl ?_
      refine reg_nil ?_
      refine seq_n ?_
      refine wc_seq ?_
      refine wc_draw (by kernel_rfl) ?_
      refine dreg_q [9] [68, 70, 71] rfl (load_box tab_ok rfl rfl rfl rfl) ?_
      refine dreg_q [4] [64] rfl (step_C tab_ok (fun K hk => hk)) ?_
      refine dreg_q [11] [] rfl (step_C tab_ok (fun K hk => hk)) ?_
      refine dreg_q [78, 79] [64] rfl (index_own tab_ok rfl rfl rfl rfl rfl (by omega) (by omega)) ?_
      refine dreg_q [80] [64] rfl (load_row (v := .d (encOp o)) tab_ok rfl rfl ⟨rfl, o, ho, encOp o, rfl, rfl⟩ rfl) ?_
      refine dreg_w2 [77, 81] [70, 71] rfl (call_new h20 rfl rfl (arg_A rfl rfl m1 m2 (arg_e arg_nil)) (.inr (doT_plain _ _ _ _ _ _ _ _ _ _)) rfl rfl) ?_
      refine dreg_q [82] [280, 281] rfl (step_C tab_ok (fun K hk => hk)) ?_
      refine dreg_q [76] [280, 281] rfl (step_C tab_ok (fun K hk => hk)) ?_
      refine dreg_q [76] [280, 281] rfl (step_C tab_ok (fun K hk => hk)) ?_
      refine dreg_q [76] [280, 281] rfl (step_C tab_ok (fun K hk => hk)) ?_
      refine dreg_s [9, 83] [68, 280, 281, 70, 71] (store_row tab_ok rfl rfl rfl ⟨_, ⟨rfl, rfl, rfl⟩, rfl⟩ rfl) ?_
      refine dreg_s [14, 84] [232] (store_row tab_ok rfl rfl rfl ⟨_, ⟨rfl, rfl, rfl⟩, rfl⟩ rfl) ?_
      refine dreg_q [85] [] rfl (step_C tab_ok (fun K hk => hk)) ?_
      refine dreg_end (by kernel_rfl) ?_
      refine seq_n ?_
      refine wc_seq ?_
      refine wc_draw (by kernel_rfl) ?_
      refine dreg_q [6] [] rfl (step_C tab_ok (fun K hk => hk)) ?_
      refine dreg_q [86] [] rfl (step_C tab_ok (fun K hk => hk)) ?_
      refine dreg_q [87] [] rfl (step_C tab_ok (fun K hk => hk)) ?_
      refine dreg_onq [88, 14] [232] rfl rfl rfl rfl (load_box tab_ok rfl rfl rfl rfl) ?_
      refine dreg_onq [88, 8] [65] rfl rfl rfl rfl (step_C tab_ok (fun K hk => hk)) ?_
      refine dreg_onq [88, 11] [] rfl rfl rfl rfl (step_C tab_ok (fun K hk => hk)) ?_
      refine dreg_onq [88, 90, 91] [65] rfl rfl rfl rfl (index_own tab_ok rfl rfl rfl rfl rfl (by omega) (by omega)) ?_
      refine dreg_onq [88, 92] [65] rfl rfl rfl rfl (load_row (v := .d (encRes ⟨v, e⟩)) tab_ok rfl rfl ⟨rfl, ⟨v, e⟩, hr, encRes ⟨v, e⟩, rfl, rfl⟩ rfl) ?_
      refine dreg_onq [88, 89, 93] [] rfl rfl rfl rfl (neq_data rfl rfl rfl rfl (by kernel_rfl) (by decide) (res_eq ⟨v, e⟩ ⟨v, e⟩)) ?_
      refine dreg_q [88, 94] [] rfl (pick_F tab_ok rfl rfl rfl) ?_
      refine dreg_q [95] [] rfl (step_C tab_ok (fun K hk => hk)) ?_
      refine dreg_onq [96, 14] [232] rfl rfl (by assumption) rfl (step_C tab_ok (fun K hk => hk)) ?_
      refine dreg_onq [96, 97] [232] rfl rfl (by assumption) rfl (load_box tab_ok rfl rfl ⟨_, rfl, rfl⟩ rfl) ?_
      refine dreg_onq [96, 12] [112] rfl rfl (by assumption) rfl (load_box tab_ok rfl rfl rfl rfl) ?_
      refine dreg_onq [96, 98, 99] [] rfl rfl (by assumption) rfl (neq_data rfl rfl rfl rfl (by kernel_rfl) (by decide) (block_eq v v)) ?_
      refine dreg_q [96, 100] [] rfl (pick_F tab_ok rfl (by assumption) rfl) ?_
      refine dreg_q [101] [] rfl (step_C tab_ok (fun K hk => hk)) ?_
      refine dreg_onq [102, 14] [232] rfl rfl (by assumption) rfl (step_C tab_ok (fun K hk => hk)) ?_
      refine dreg_onq [102, 103] [232] rfl rfl (by assumption) rfl (load_box tab_ok rfl rfl ⟨_, rfl, rfl⟩ rfl) ?_
      refine dreg_onq [102, 13] [] rfl rfl (by assumption) rfl (step_C tab_ok (fun K hk => hk)) ?_
      refine dreg_onq [102, 104, 105] [] rfl rfl (by assumption) rfl (step_C tab_ok (fun K hk => hk)) ?_
      refine dreg_q [102, 106] [] rfl (pick_F tab_ok rfl (by assumption) rfl) ?_
      refine dreg_q [107] [] rfl (step_C tab_ok (fun K hk => hk)) ?_
      refine dreg_onq [108, 9] [68, 280, 281] rfl rfl (by assumption) rfl (load_box tab_ok rfl rfl rfl rfl) ?_
      refine dreg_onq [108, 10] [69, 168, 169] rfl rfl (by assumption) rfl (load_box tab_ok rfl rfl rfl rfl) ?_
      refine dreg_on rfl rfl (by assumption) rfl (call_h [(0, some 280), (1, some 281), (2, some 168), (3, some 169)] (sameS ga gb l3 l4 hN4 none none false false false false) rfl rfl rfl (arg_giveA rfl rfl rfl rfl (arg_giveA rfl rfl rfl rfl arg_nil)) ⟨⟨rfl, rfl, _, _, rfl, rfl, .refl _⟩, ⟨rfl, rfl, _, _, rfl, rfl, .refl _⟩, ⟨rfl, rfl, _, _, rfl, rfl, .refl _⟩, ⟨rfl, rfl, _, _, rfl, rfl, .refl _⟩, trivial⟩ rfl rfl (.inl rfl) rfl rfl) rfl rfl ?_
      refine dreg_onq [108, 111] [] rfl rfl (by assumption) rfl (step_C tab_ok (fun K hk => hk)) ?_
      refine dreg_q [108, 112] [] rfl (pick_F tab_ok rfl (by assumption) rfl) ?_
      refine dreg_q [113] [] rfl (step_C tab_ok (fun K hk => hk)) ?_
      refine dreg_onq [114, 3] [] rfl rfl rfl rfl (step_C tab_ok (fun K hk => hk)) ?_
      refine dreg_onq [114, 4] [64] rfl rfl rfl rfl (step_C tab_ok (fun K hk => hk)) ?_
      refine dreg_onq [114, 11] [] rfl rfl rfl rfl (step_C tab_ok (fun K hk => hk)) ?_
      refine dreg_onq [114, 116, 117] [64] rfl rfl rfl rfl (index_own tab_ok rfl rfl rfl rfl rfl (by omega) (by omega)) ?_
      refine dreg_onq [114, 118] [64] rfl rfl rfl rfl (load_row (v := .d (encOp o)) tab_ok rfl rfl ⟨rfl, o, ho, encOp o, rfl, rfl⟩ rfl) ?_
      refine dreg_onq [114, 115, 119] [] rfl rfl rfl rfl (call_r h21 rfl rfl (arg_e (arg_e arg_nil)) (.inl rfl) (fun _ => rfl)) ?_
      refine dreg_onq [114, 13] [] rfl rfl rfl rfl (step_C tab_ok (fun K hk => hk)) ?_
      refine dreg_onq [114, 121] [] rfl rfl rfl rfl (step_C tab_ok (fun K hk => hk)) ?_
      refine dreg_onq [114, 120, 122] [] rfl rfl rfl rfl (step_C tab_ok (fun K hk => hk)) ?_
      refine dreg_q [114, 123] [] rfl (pick_F tab_ok rfl rfl rfl) ?_
      refine dreg_end (by kernel_rfl) ?_
      refine seq_n ?_
      refine wc_false rfl (by assumption) ?_
      refine wc_skip ?_
      refine blk_n ?_
      refine seq_n ?_
      refine wc_region ?_
      refine reg_quiet rfl (step_C tab_ok (fun K hk => hk)) ?_
      refine reg_quiet rfl (add_int tab_ok rfl rfl (wrap_i64 (by omega) (by omega))) ?_
      refine reg_quiet rfl (step_C tab_ok (fun K hk => hk)) ?_
      refine reg_nil ?_
      refine loop_n (Sum.inr 0) [(64, some 64), (65, some 65), (66, some 66), (67, some 67), (68, some 68), (69, some 69), (70, some 70), (71, some 71), (72, some 72), (73, some 73), (74, some 168), (75, some 169), (76, some 280), (77, some 281)] (show 0 + 1 ≤ L from hlt) (show L - (0 + 1) < L by omega) ?_
      subst hga hgb
      exact .of rfl rfl rfl rfl rfl ⟨⟨_, rfl, .refl _⟩, rfl, ⟨_, rfl, .refl _⟩, rfl, ⟨_, rfl, .refl _⟩, rfl, ⟨_, rfl, .refl _⟩, rfl, ⟨_, rfl, .refl _⟩, rfl, ⟨_, rfl, .refl _⟩, rfl, ⟨_, rfl, .refl _⟩, rfl, ⟨_, rfl, .refl _⟩, rfl, trivial⟩ ⟨⟨rfl, rfl, _, rfl, .refl _⟩, ⟨rfl, rfl, _, rfl, .refl _⟩, ⟨rfl, rfl, _, rfl, .refl _⟩, ⟨rfl, rfl, _, rfl, .refl _⟩, ⟨rfl, rfl, _, rfl, .refl _⟩, ⟨rfl, rfl, _, rfl, .refl _⟩, ⟨rfl, rfl, _, rfl, .refl _⟩, ⟨rfl, rfl, _, rfl, .refl _⟩, ⟨rfl, rfl, _, rfl, .refl _⟩, ⟨rfl, rfl, _, rfl, .refl _⟩, ⟨rfl, rfl, _, rfl, .refl _⟩, ⟨rfl, rfl, _, rfl, .refl _⟩, ⟨rfl, rfl, _, rfl, .refl _⟩, ⟨rfl, rfl, _, rfl, .refl _⟩, trivial⟩
    · obtain rfl : L = 0 := by have := of_decide_eq_false h3; omega
      refine wc_exit ?_
      refine seq_x ?_
      refine loop_x ?_
      refine blk_x ?_
      refine seq_n ?_
      refine wc_seq ?_
      refine wc_draw (by kernel_rfl) ?_
      refine dreg_q [7] [67, 72, 73] rfl (load_box tab_ok rfl rfl rfl rfl) ?_
      refine dreg_q [10] [69, 74, 75] rfl (load_box tab_ok rfl rfl rfl rfl) ?_
      refine dreg_step rfl (call_h [(0, some 72), (1, some 73), (2, some 74), (3, some 75)] (sameS _ _ l5 l6 hN4 none none false false true true) rfl rfl rfl (arg_giveA rfl rfl rfl rfl (arg_giveA rfl rfl rfl rfl arg_nil)) ⟨⟨rfl, rfl, _, _, rfl, rfl, .refl _⟩, ⟨rfl, rfl, _, _, rfl, rfl, .refl _⟩, ⟨rfl, rfl, _, _, rfl, rfl, .refl _⟩, ⟨rfl, rfl, _, _, rfl, rfl, .refl _⟩, trivial⟩ rfl rfl (.inl rfl) rfl rfl) rfl rfl ?_
      refine dreg_q [127] [] rfl (step_C tab_ok (fun K hk => hk)) ?_
      refine dreg_q [128] [] rfl (step_C tab_ok (fun K hk => hk)) ?_
      refine dreg_onq [129, 5] [66, 70, 71] rfl rfl rfl rfl (load_box tab_ok rfl rfl rfl rfl) ?_
      refine dreg_onq [129, 3] [] rfl rfl rfl rfl (step_C tab_ok (fun K hk => hk)) ?_
      refine dreg_onw2 [129, 131] [] rfl rfl rfl rfl (call_new hR rfl rfl (arg_e arg_nil) (.inl rfl) rfl rfl) ?_
      refine dreg_on rfl rfl rfl rfl (call_h [(0, some 70), (1, some 71), (2, some 168), (3, some 169)] (sameN z z lz lz hN4 none none true true) rfl rfl rfl (arg_giveA rfl rfl rfl rfl (arg_giveA rfl rfl rfl rfl arg_nil)) ⟨⟨rfl, rfl, _, _, rfl, rfl, .refl _⟩, ⟨rfl, rfl, _, _, rfl, rfl, .refl _⟩, ⟨rfl, rfl, _, _, rfl, rfl, .refl _⟩, ⟨rfl, rfl, _, _, rfl, rfl, .refl _⟩, trivial⟩ rfl rfl (.inl rfl) rfl rfl) rfl rfl ?_
      refine dreg_onq [129, 133] [] rfl rfl rfl rfl (step_C tab_ok (fun K hk => hk)) ?_
      refine dreg_q [129, 134] [] rfl (pick_T tab_ok rfl rfl rfl) ?_
      refine dreg_q [135] [] rfl (step_C tab_ok (fun K hk => hk)) ?_
      refine dreg_onq [136, 7] [67, 72, 73] rfl rfl rfl rfl (load_box tab_ok rfl rfl rfl rfl) ?_
      refine dreg_onq [136, 137] [72, 73] rfl rfl rfl rfl (call_r hK rfl rfl (arg_A rfl rfl l5 l6 arg_nil) (.inr (int_plain _ _)) (fun _ => rfl)) ?_
      refine dreg_onq [136, 138] [] rfl rfl rfl rfl (step_C tab_ok (fun K hk => hk)) ?_
      refine dreg_q [136, 139] [] rfl (pick_T tab_ok rfl rfl rfl) ?_
      refine dreg_q [140] [] rfl (step_C tab_ok (fun K hk => hk)) ?_
      refine dreg_onq [141] [] rfl rfl rfl rfl (call_r lives_is rfl rfl arg_nil (.inl rfl) (fun _ => rfl)) ?_
      refine dreg_q [141, 142] [] rfl (pick_T tab_ok rfl rfl rfl) ?_
      refine dreg_q [143] [] rfl (step_C tab_ok (fun K hk => hk)) ?_
      refine dreg_end (by kernel_rfl) ?_
      refine seq_n ?_
      refine wc_ret ?_
      exact ⟨trivial, [], .of rfl rfl rfl rfl rfl ⟨⟨_, rfl, AVLe.of_eq rfl⟩, rfl, trivial⟩ trivial⟩
  · have hj : j + 1 ≤ L := hi
    refine wc_of ?_
    refine wc_seq ?_
    refine wc_seq ?_
    refine wc_region ?_
    refine reg_quiet rfl (step_C tab_ok (fun K hk => hk)) ?_
    refine reg_quiet rfl (step_C tab_ok (fun K hk => hk)) ?_
    refine reg_quiet rfl (len_own tab_ok rfl rfl) ?_
    refine reg_quiet rfl (step_C tab_ok (fun K hk => hk)) ?_
    refine reg_nil ?_
    refine seq_n ?_
    refine wc_cond rfl (fun h3 => ?_) (fun h3 => ?_)
    · have hlt : j + 1 < L := by have := of_decide_eq_true h3; omega
      obtain ⟨o, ho0⟩ : ∃ o, ops[j + 1]? = some o := ⟨_, List.getElem?_eq_getElem (by omega)⟩
      obtain ⟨v, e, b, hr0, h19, h20, h21, hb⟩ := step _ o ho0
      have ho : ops[(((j + 1 : Nat) : Int)).toNat]? = some o := by rw [Int.toNat_natCast]; exact ho0
      have hr : rs[(((j + 1 : Nat) : Int)).toNat]? = some ⟨v, e⟩ := by rw [Int.toNat_natCast]; exact hr0
      have l1 := la (j + 1)
      have l2 := lb (j + 1)
      have m1 := la (j + 1)
      have m2 := lb (j + 1)
      have l3 := la (j + 1 + 1)
      have l4 := lb (j + 1 + 1)
      obtain ⟨ga, hga⟩ : ∃ t, t = fa (j + 1 + 1) := ⟨_, rfl⟩
      obtain ⟨gb, hgb⟩ : ∃ t, t = fb (j + 1 + 1) := ⟨_, rfl⟩
      rw [← hga] at l3 h19 h20
      rw [← hgb] at l4 h19 h20
      have f1 : (!decide ((⟨v, e⟩ : Res) = ⟨v, e⟩)) = false := by simp
      have f2 : (!decide (v = v)) = false := by simp
      have f3 : (!decide (e = e)) = false := by simp
      refine wc_skip ?_
      refine seq_n ?_
      refine wc_seq ?_
      refine wc_block ?_
      refine wc_seq ?_
      refine wc_region ?_
      refine reg_new (step_C tab_ok (fun K hk => hk)) rfl ?_
      refine reg_nil ?_
      refine seq_n ?_
      refine wc_seq ?_
      refine wc_region ?_
      refine reg_quiet rfl (step_C tab_ok (fun K hk => hk)) ?_
      refine reg_nil ?_
      refine seq_n ?_
      refine wc_seq ?_
      refine wc_draw (by kernel_rfl) ?_
      refine dreg_q [10] [69, 74, 75] rfl (load_box tab_ok rfl rfl rfl rfl) ?_
      refine dreg_q [4] [64] rfl (step_C tab_ok (fun K hk => hk)) ?_
      refine dreg_q [11] [] rfl (step_C tab_ok (fun K hk => hk)) ?_
      refine dreg_q [68, 69] [64] rfl (index_own tab_ok rfl rfl rfl rfl rfl (by omega) (by omega)) ?_
      refine dreg_q [70] [64] rfl (load_row (v := .d (encOp o)) tab_ok rfl rfl ⟨rfl, o, ho, encOp o, rfl, rfl⟩ rfl) ?_
      refine dreg_w2 [67, 71] [74, 75] rfl (call_new h19 rfl rfl (arg_A rfl rfl l1 l2 (arg_e arg_nil)) (.inr (refT_plain _ _ _ _ _ _ _ _ _ _)) rfl rfl) ?_
      refine dreg_q [72] [168, 169] rfl (step_C tab_ok (fun K hk => hk)) ?_
      refine dreg_q [66] [168, 169] rfl (step_C tab_ok (fun K hk => hk)) ?_
      refine dreg_q [66] [168, 169] rfl (step_C tab_ok (fun K hk => hk)) ?_
      refine dreg_q [66] [168, 169] rfl (step_C tab_ok (fun K hk => hk)) ?_
      refine dreg_s [10, 73] [69, 168, 169, 74, 75] (store_row tab_ok rfl rfl rfl ⟨_, ⟨rfl, rfl, rfl⟩, rfl⟩ rfl) ?_
      refine dreg_s [12, 74] [112] (store_row tab_ok rfl rfl rfl ⟨_, ⟨rfl, rfl, rfl⟩, rfl⟩ rfl) ?_
      refine dreg_q [75] [] rfl (step_C tab_ok (fun K hk => hk)) ?_
      refine dreg_end (by kernel_rfl) ?_
      refine seq_n ?_
      refine wc_seq ?_
      refine wc_region ?_
      refine reg_new (step_C tab_ok (fun K hk => hk)) rfl ?_
      refine reg_nil ?_
      refine seq_n ?_
      refine wc_seq ?_
      refine wc_draw (by kernel_rfl) ?_
      refine dreg_q [9] [68, 76, 77] rfl (load_box tab_ok rfl rfl rfl rfl) ?_
      refine dreg_q [4] [64] rfl (step_C tab_ok (fun K hk => hk)) ?_
      refine dreg_q [11] [] rfl (step_C tab_ok (fun K hk => hk)) ?_
      refine dreg_q [78, 79] [64] rfl (index_own tab_ok rfl rfl rfl rfl rfl (by omega) (by omega)) ?_
      refine dreg_q [80] [64] rfl (load_row (v := .d (encOp o)) tab_ok rfl rfl ⟨rfl, o, ho, encOp o, rfl, rfl⟩ rfl) ?_
      refine dreg_w2 [77, 81] [76, 77] rfl (call_new h20 rfl rfl (arg_A rfl rfl m1 m2 (arg_e arg_nil)) (.inr (doT_plain _ _ _ _ _ _ _ _ _ _)) rfl rfl) ?_
      refine dreg_q [82] [280, 281] rfl (step_C tab_ok (fun K hk => hk)) ?_
      refine dreg_q [76] [280, 281] rfl (step_C tab_ok (fun K hk => hk)) ?_
      refine dreg_q [76] [280, 281] rfl (step_C tab_ok (fun K hk => hk)) ?_
      refine dreg_q [76] [280, 281] rfl (step_C tab_ok (fun K hk => hk)) ?_
      refine dreg_s [9, 83] [68, 280, 281, 76, 77] (store_row tab_ok rfl rfl rfl ⟨_, ⟨rfl, rfl, rfl⟩, rfl⟩ rfl) ?_
      refine dreg_s [14, 84] [232] (store_row tab_ok rfl rfl rfl ⟨_, ⟨rfl, rfl, rfl⟩, rfl⟩ rfl) ?_
      refine dreg_q [85] [] rfl (step_C tab_ok (fun K hk => hk)) ?_
      refine dreg_end (by kernel_rfl) ?_
      refine seq_n ?_
      refine wc_seq ?_
      refine wc_draw (by kernel_rfl) ?_
      refine dreg_q [6] [] rfl (step_C tab_ok (fun K hk => hk)) ?_
      refine dreg_q [86] [] rfl (step_C tab_ok (fun K hk => hk)) ?_
      refine dreg_q [87] [] rfl (step_C tab_ok (fun K hk => hk)) ?_
      refine dreg_onq [88, 14] [232] rfl rfl rfl rfl (load_box tab_ok rfl rfl rfl rfl) ?_
      refine dreg_onq [88, 8] [65] rfl rfl rfl rfl (step_C tab_ok (fun K hk => hk)) ?_
      refine dreg_onq [88, 11] [] rfl rfl rfl rfl (step_C tab_ok (fun K hk => hk)) ?_
      refine dreg_onq [88, 90, 91] [65] rfl rfl rfl rfl (index_own tab_ok rfl rfl rfl rfl rfl (by omega) (by omega)) ?_
      refine dreg_onq [88, 92] [65] rfl rfl rfl rfl (load_row (v := .d (encRes ⟨v, e⟩)) tab_ok rfl rfl ⟨rfl, ⟨v, e⟩, hr, encRes ⟨v, e⟩, rfl, rfl⟩ rfl) ?_
      refine dreg_onq [88, 89, 93] [] rfl rfl rfl rfl (neq_data rfl rfl rfl rfl (by kernel_rfl) (by decide) (res_eq ⟨v, e⟩ ⟨v, e⟩)) ?_
      refine dreg_q [88, 94] [] rfl (pick_F tab_ok rfl rfl rfl) ?_
      refine dreg_q [95] [] rfl (step_C tab_ok (fun K hk => hk)) ?_
      refine dreg_onq [96, 14] [232] rfl rfl (by assumption) rfl (step_C tab_ok (fun K hk => hk)) ?_
      refine dreg_onq [96, 97] [232] rfl rfl (by assumption) rfl (load_box tab_ok rfl rfl ⟨_, rfl, rfl⟩ rfl) ?_
      refine dreg_onq [96, 12] [112] rfl rfl (by assumption) rfl (load_box tab_ok rfl rfl rfl rfl) ?_
      refine dreg_onq [96, 98, 99] [] rfl rfl (by assumption) rfl (neq_data rfl rfl rfl rfl (by kernel_rfl) (by decide) (block_eq v v)) ?_
      refine dreg_q [96, 100] [] rfl (pick_F tab_ok rfl (by assumption) rfl) ?_
      refine dreg_q [101] [] rfl (step_C tab_ok (fun K hk => hk)) ?_
      refine dreg_onq [102, 14] [232] rfl rfl (by assumption) rfl (step_C tab_ok (fun K hk => hk)) ?_
      refine dreg_onq [102, 103] [232] rfl rfl (by assumption) rfl (load_box tab_ok rfl rfl ⟨_, rfl, rfl⟩ rfl) ?_
      refine dreg_onq [102, 13] [] rfl rfl (by assumption) rfl (step_C tab_ok (fun K hk => hk)) ?_
      refine dreg_onq [102, 104, 105] [] rfl rfl (by assumption) rfl (step_C tab_ok (fun K hk => hk)) ?_
      refine dreg_q [102, 106] [] rfl (pick_F tab_ok rfl (by assumption) rfl) ?_
      refine dreg_q [107] [] rfl (step_C tab_ok (fun K hk => hk)) ?_
      refine dreg_onq [108, 9] [68, 280, 281] rfl rfl (by assumption) rfl (load_box tab_ok rfl rfl rfl rfl) ?_
      refine dreg_onq [108, 10] [69, 168, 169] rfl rfl (by assumption) rfl (load_box tab_ok rfl rfl rfl rfl) ?_
      refine dreg_on rfl rfl (by assumption) rfl (call_h [(0, some 280), (1, some 281), (2, some 168), (3, some 169)] (sameS ga gb l3 l4 hN4 none none false false false false) rfl rfl rfl (arg_giveA rfl rfl rfl rfl (arg_giveA rfl rfl rfl rfl arg_nil)) ⟨⟨rfl, rfl, _, _, rfl, rfl, .refl _⟩, ⟨rfl, rfl, _, _, rfl, rfl, .refl _⟩, ⟨rfl, rfl, _, _, rfl, rfl, .refl _⟩, ⟨rfl, rfl, _, _, rfl, rfl, .refl _⟩, trivial⟩ rfl rfl (.inl rfl) rfl rfl) rfl rfl ?_
      refine dreg_onq [108, 111] [] rfl rfl (by assumption) rfl (step_C tab_ok (fun K hk => hk)) ?_
      refine dreg_q [108, 112] [] rfl (pick_F tab_ok rfl (by assumption) rfl) ?_
      refine dreg_q [113] [] rfl (step_C tab_ok (fun K hk => hk)) ?_
      refine dreg_onq [114, 3] [] rfl rfl rfl rfl (step_C tab_ok (fun K hk => hk)) ?_
      refine dreg_onq [114, 4] [64] rfl rfl rfl rfl (step_C tab_ok (fun K hk => hk)) ?_
      refine dreg_onq [114, 11] [] rfl rfl rfl rfl (step_C tab_ok (fun K hk => hk)) ?_
      refine dreg_onq [114, 116, 117] [64] rfl rfl rfl rfl (index_own tab_ok rfl rfl rfl rfl rfl (by omega) (by omega)) ?_
      refine dreg_onq [114, 118] [64] rfl rfl rfl rfl (load_row (v := .d (encOp o)) tab_ok rfl rfl ⟨rfl, o, ho, encOp o, rfl, rfl⟩ rfl) ?_
      refine dreg_onq [114, 115, 119] [] rfl rfl rfl rfl (call_r h21 rfl rfl (arg_e (arg_e arg_nil)) (.inl rfl) (fun _ => rfl)) ?_
      refine dreg_onq [114, 13] [] rfl rfl rfl rfl (step_C tab_ok (fun K hk => hk)) ?_
      refine dreg_onq [114, 121] [] rfl rfl rfl rfl (step_C tab_ok (fun K hk => hk)) ?_
      refine dreg_onq [114, 120, 122] [] rfl rfl rfl rfl (step_C tab_ok (fun K hk => hk)) ?_
      refine dreg_q [114, 123] [] rfl (pick_F tab_ok rfl rfl rfl) ?_
      refine dreg_end (by kernel_rfl) ?_
      refine seq_n ?_
      refine wc_false rfl (by assumption) ?_
      refine wc_skip ?_
      refine blk_n ?_
      refine seq_n ?_
      refine wc_region ?_
      refine reg_quiet rfl (step_C tab_ok (fun K hk => hk)) ?_
      refine reg_quiet rfl (add_int tab_ok rfl rfl (wrap_i64 (by omega) (by omega))) ?_
      refine reg_quiet rfl (step_C tab_ok (fun K hk => hk)) ?_
      refine reg_nil ?_
      refine loop_n (Sum.inr (j + 1)) [(64, some 64), (65, some 65), (66, some 66), (67, some 67), (68, some 68), (69, some 69), (70, some 70), (71, some 71), (72, some 72), (73, some 73), (74, some 168), (75, some 169), (76, some 280), (77, some 281)] (show j + 1 + 1 ≤ L from hlt) (show L - (j + 1 + 1) < L - (j + 1) by omega) ?_
      subst hga hgb
      exact .of rfl rfl rfl rfl rfl ⟨⟨_, rfl, .refl _⟩, rfl, ⟨_, rfl, .refl _⟩, rfl, ⟨_, rfl, .refl _⟩, rfl, ⟨_, rfl, .refl _⟩, rfl, ⟨_, rfl, .refl _⟩, rfl, ⟨_, rfl, .refl _⟩, rfl, ⟨_, rfl, .refl _⟩, rfl, ⟨_, rfl, .refl _⟩, rfl, trivial⟩ ⟨⟨rfl, rfl, _, rfl, .refl _⟩, ⟨rfl, rfl, _, rfl, .refl _⟩, ⟨rfl, rfl, _, rfl, .refl _⟩, ⟨rfl, rfl, _, rfl, .refl _⟩, ⟨rfl, rfl, _, rfl, .refl _⟩, ⟨rfl, rfl, _, rfl, .refl _⟩, ⟨rfl, rfl, _, rfl, .refl _⟩, ⟨rfl, rfl, _, rfl, .refl _⟩, ⟨rfl, rfl, _, rfl, .refl _⟩, ⟨rfl, rfl, _, rfl, .refl _⟩, ⟨rfl, rfl, _, rfl, .refl _⟩, ⟨rfl, rfl, _, rfl, .refl _⟩, ⟨rfl, rfl, _, rfl, .refl _⟩, ⟨rfl, rfl, _, rfl, .refl _⟩, trivial⟩
    · obtain rfl : L = j + 1 := by have := of_decide_eq_false h3; omega
      refine wc_exit ?_
      refine seq_x ?_
      refine loop_x ?_
      refine blk_x ?_
      refine seq_n ?_
      refine wc_seq ?_
      refine wc_draw (by kernel_rfl) ?_
      refine dreg_q [7] [67, 72, 73] rfl (load_box tab_ok rfl rfl rfl rfl) ?_
      refine dreg_q [10] [69, 74, 75] rfl (load_box tab_ok rfl rfl rfl rfl) ?_
      refine dreg_step rfl (call_h [(0, some 72), (1, some 73), (2, some 74), (3, some 75)] (sameS _ _ l5 l6 hN4 none none false false false false) rfl rfl rfl (arg_giveA rfl rfl rfl rfl (arg_giveA rfl rfl rfl rfl arg_nil)) ⟨⟨rfl, rfl, _, _, rfl, rfl, .refl _⟩, ⟨rfl, rfl, _, _, rfl, rfl, .refl _⟩, ⟨rfl, rfl, _, _, rfl, rfl, .refl _⟩, ⟨rfl, rfl, _, _, rfl, rfl, .refl _⟩, trivial⟩ rfl rfl (.inl rfl) rfl rfl) rfl rfl ?_
      refine dreg_q [127] [] rfl (step_C tab_ok (fun K hk => hk)) ?_
      refine dreg_q [128] [] rfl (step_C tab_ok (fun K hk => hk)) ?_
      refine dreg_onq [129, 5] [66, 70, 71] rfl rfl rfl rfl (load_box tab_ok rfl rfl rfl rfl) ?_
      refine dreg_onq [129, 3] [] rfl rfl rfl rfl (step_C tab_ok (fun K hk => hk)) ?_
      refine dreg_onw2 [129, 131] [] rfl rfl rfl rfl (call_new hR rfl rfl (arg_e arg_nil) (.inl rfl) rfl rfl) ?_
      refine dreg_on rfl rfl rfl rfl (call_h [(0, some 70), (1, some 71), (2, some 168), (3, some 169)] (sameN z z lz lz hN4 none none true true) rfl rfl rfl (arg_giveA rfl rfl rfl rfl (arg_giveA rfl rfl rfl rfl arg_nil)) ⟨⟨rfl, rfl, _, _, rfl, rfl, .refl _⟩, ⟨rfl, rfl, _, _, rfl, rfl, .refl _⟩, ⟨rfl, rfl, _, _, rfl, rfl, .refl _⟩, ⟨rfl, rfl, _, _, rfl, rfl, .refl _⟩, trivial⟩ rfl rfl (.inl rfl) rfl rfl) rfl rfl ?_
      refine dreg_onq [129, 133] [] rfl rfl rfl rfl (step_C tab_ok (fun K hk => hk)) ?_
      refine dreg_q [129, 134] [] rfl (pick_T tab_ok rfl rfl rfl) ?_
      refine dreg_q [135] [] rfl (step_C tab_ok (fun K hk => hk)) ?_
      refine dreg_onq [136, 7] [67, 72, 73] rfl rfl rfl rfl (load_box tab_ok rfl rfl rfl rfl) ?_
      refine dreg_onq [136, 137] [72, 73] rfl rfl rfl rfl (call_r hK rfl rfl (arg_A rfl rfl l5 l6 arg_nil) (.inr (int_plain _ _)) (fun _ => rfl)) ?_
      refine dreg_onq [136, 138] [] rfl rfl rfl rfl (step_C tab_ok (fun K hk => hk)) ?_
      refine dreg_q [136, 139] [] rfl (pick_T tab_ok rfl rfl rfl) ?_
      refine dreg_q [140] [] rfl (step_C tab_ok (fun K hk => hk)) ?_
      refine dreg_onq [141] [] rfl rfl rfl rfl (call_r lives_is rfl rfl arg_nil (.inl rfl) (fun _ => rfl)) ?_
      refine dreg_q [141, 142] [] rfl (pick_T tab_ok rfl rfl rfl) ?_
      refine dreg_q [143] [] rfl (step_C tab_ok (fun K hk => hk)) ?_
      refine dreg_end (by kernel_rfl) ?_
      refine seq_n ?_
      refine wc_ret ?_
      exact ⟨trivial, [], .of rfl rfl rfl rfl rfl ⟨⟨_, rfl, AVLe.of_eq rfl⟩, rfl, trivial⟩ trivial⟩
end Go.Proofs.Ytjpjchohpjbknaa

/- ArraysPlay: the law. -/
namespace Go.Proofs.Ytjpjchohpjbknaa
open Go.Eng
theorem arraysPlay_is (bl : Int) (zs : List (List Int)) (hb : 0 ≤ bl ∧ bl ≤ 255) (h3 : Three zs) : FnIs Try.prog 3 [.d (encO bl zs)] [] (.bool true) [] := by
  have k1 := nOf_bound hb
  obtain ⟨N, hN⟩ : ∃ N : Nat, nOf bl = N := ⟨(nOf bl).toNat, by omega⟩
  have hO := of_is bl zs hb h3
  rw [hN] at hO
  have hll : (opsOf bl zs).length ≤ 30 := by rw [opsOf, opsK_len (by omega)]; omega
  generalize opsOf bl zs = ops at hO hll
  have n1 : 1 ≤ N := by omega
  have n2 : N ≤ 20 := by omega
  have hg : ∀ i, Good N (runF (zeros N, zeros N) ops i) := fun i => runF_good (zeros_good N) ops i
  have hN0 := new_ok N (by rw [Bool.or_eq_false_iff]; exact ⟨decide_eq_false (by omega), decide_eq_false (by omega)⟩)
  have hP := play_ok (zeros N) (zeros N) ops N (zeros_good N) (okA_of (N := N) (by simp) (by simp) n1 (by omega)) (decide_eq_false (by omega))
  have hK := check_is (runF (zeros N, zeros N) ops ops.length).1 (runF (zeros N, zeros N) ops ops.length).2
  rw [okA_of (hg _).l1.symm (hg _).l2.symm n1 (by omega), if_pos rfl] at hK
  refine play_core _ N ops.length (zeros N) ops (resL (zeros N, zeros N) ops) (fun i => (runF (zeros N, zeros N) ops i).1) (fun i => (runF (zeros N, zeros N) ops i).2) ⟨bl, zs, rfl⟩ (by simp) n2 rfl (resL_len _ _).symm hll hO hN0 (refnew_is N (by omega)) hP hK (fun i => (hg i).l1.symm) (fun i => (hg i).l2.symm) rfl rfl ?_
  intro i o ho
  have e1 := (hg i).l1
  have e2 := (hg i).l2
  have hs := runF_succ (x := (zeros N, zeros N)) ho
  have h19 := refdo_is (runF (zeros N, zeros N) ops i).1 (runF (zeros N, zeros N) ops i).2 o (by omega) (by omega) (by omega) (hg i).b1
  have h20 := Do_N o e1.symm e2.symm n1 (by omega)
  refine ⟨doV (runF (zeros N, zeros N) ops i).1 o, doE (runF (zeros N, zeros N) ops i).1 o, badOp N o, resL_get ho, ?_, ?_, bad_is N o, ?_⟩
  · simp only [hs]
    simp only [refR, ownN, e1, e2] at h19
    exact h19
  · simp only [hs]
    exact h20
  · unfold doE
    rw [e1]
    cases badOp N o <;> rfl
end Go.Proofs.Ytjpjchohpjbknaa

/- ArraysPlay: the walked law is the statement. -/
namespace Go.Proofs.Ytjpjchohpjbknaa
open Go.ChangeShapes Go.WideShapes Go.ChangeAt Go.RowKit Go.Eng
theorem own : ownKnob Try.prog.godebug = none := by kernel_rfl
theorem laidOut : laidOutB Try.prog = true := by kernel_rfl
set_option maxRecDepth 100000 in
theorem lifted (os : Os) (started : os.Started) (H : Type) (enc : TypeId × Value → H) :
    ReturnsInHanded {} Try.checked os 3 .any (Rows.arraysPlaySpec.pre6 enc Try.prog Try.f3 Rows.arraysPlayRow.domain false) (Rows.arraysPlaySpec.post enc Try.prog Try.f3 false true false false) := by
  refine returnsInHanded_of_change (C := Try.checked) own started (by kernel_rfl) Try.func3
    (ChangeSpec.witness6 (enc := enc) (C := Try.checked) false ⟨#[], #[(.agg #[.int .u8 0, .slice none 0 0])], []⟩ 8 (by kernel_rfl) (by kernel_rfl) (by kernel_rfl) (by kernel_rfl)) ?_
  intro W base args ds gs before hval0 hW hcnd _
  have hval : ∀ (j : Nat) t v, Try.f3.params[j]? = some t → args[j]? = some v → Value.okWide Try.prog W .any base t v := hval0
  have hW' := hW
  obtain ⟨p, q, hA0, hV, rfl, hfz, hnd⟩ := hW
  have hA : DataW.TrodAll enc Try.prog W 0 (fun _ => true) true Try.f3.params.toList args.toList ds p := hA0
  rw [Try.params3] at hA hval
  obtain ⟨v0, vs0, d0, ds0, p0, q0, hargs, rfl, rfl, h0, r0⟩ := trodAll_cons hA
  obtain ⟨rfl, rfl, rfl⟩ := trodAll_nil r0
  obtain rfl : args = #[v0] := Array.ext' (by simpa using hargs)
  obtain ⟨rfl, rfl⟩ := trodVars_none hV
  have k0 := h0
  have lt0 : ∀ x ∈ p0, x.block < W.heap.size := by obtain ⟨m, hm⟩ := k0; exact DataW.trod_lt m _ _ _ hm
  obtain ⟨fuel0, hfu0⟩ := h0
  obtain ⟨x0, e0, _, w0⟩ := opens_X H enc W _ _ fuel0 _ _ hfu0
  obtain ⟨cs0, hcs0, _⟩ := okWide_struct Try.underlying24 (hval 0 24 v0 rfl rfl)
  have rel0 : RelV (fun _ => none) W (fun _ => False) (.d (encX x0)) v0 := e0.relV ⟨fun _ => rfl, fun _ => ⟨cs0, hcs0⟩⟩
  clear hA0 hval0
  refine (law_calls (arraysPlay_is x0.1 x0.2 (u8_of w0.1) (three_of w0.2)) (W := W) (args := #[v0]) ⟨v0, [], rfl, ⟨rel0, trivial⟩, rfl⟩).mono fun e W' ⟨he, bel⟩ => ?_
  subst he
  exact ⟨_, rfl, _, _, _, [], _, [], hW', trodAll_mk1 (shut_bool Try.underlying4 _), (trodAll_cons_mk (Below.trod laidOut (by kernel_rfl) (of_decide_eq_true (by kernel_rfl)) k0 bel lt0) trodAll_mk0), rfl, bel.frame _, fun h => by cases h⟩

theorem over : Rows.arraysPlayRow.holds Try.pinned (OpenSpec.ofChange Rows.arraysPlaySpec) :=
  OpenClaim.holds_of_wide 3 Try.f3 rfl rfl rfl rfl rfl rfl rfl ⟨rfl, rfl, rfl, rfl, rfl⟩ rfl rfl rfl rfl rfl (by kernel_rfl) Try.func3 (by kernel_rfl)
    (of_decide_eq_true (by kernel_rfl)) (by unfold Func.isWrapper; first | (rw [if_pos (by decide +kernel)]; kernel_rfl) | (rw [if_neg (by decide +kernel)]; exact ⟨rfl, rfl⟩))
    (fun os started H enc _ => lifted os started H enc)
theorem arraysPlay_holds : Rows.ArraysPlaySaid := over
end Go.Proofs.Ytjpjchohpjbknaa
