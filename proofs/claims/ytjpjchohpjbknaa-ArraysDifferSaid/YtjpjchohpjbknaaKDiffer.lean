/- Two arrays differ where their blocks do, and they are the same exactly if all fields are. No condition. -/
import Derived.Test.YtjpjchohpjbknaaAB
import Derived.Test.YtjpjchohpjbknaaRows

set_option linter.unusedVariables false
set_option linter.unusedSimpArgs false

/- ArraysDiffer: two arrays differ where their blocks do. -/
namespace Go.Proofs.Ytjpjchohpjbknaa
open Go.Eng
set_option maxHeartbeats 4000000
set_option maxRecDepth 4000
attribute [local irreducible] WC RegS RegD SeqQ BlkQ ScoQ RegK CutK Sat SatN FnIs LoopQ StepIs OpIs
theorem own_plain (n m : Nat) (c c2 : Option Nat) (a b : Blks) (e1 e2 : Bool) : PlainRes (ownA 64 n c 65 m c2) [(64, rowB e1 a), (65, rowB e2 b)] := .of ⟨trivial, trivial, trivial⟩ (rows_plain _ _ _ _)
theorem diff_pre {a c : Blks} {i : Nat} : ∀ n, ∃ r, diffK a c (i + n) = diffK a c i ++ r
  | 0 => ⟨[], by simp⟩
  | n + 1 => by
    obtain ⟨r, hr⟩ := diff_pre (a := a) (c := c) (i := i) n
    by_cases h : a[i + n]? = c[i + n]?
    · exact ⟨r, by rw [← Nat.add_assoc, diff_no h, hr]⟩
    · exact ⟨r ++ [((i + n : Nat) : Int)], by rw [← Nat.add_assoc, diff_yes h, hr, List.append_assoc]⟩
theorem diff_at {a c : Blks} {i n : Nat} (hi : i < n) (h : a[i]? ≠ c[i]?) : (diffK a c n)[(diffK a c i).length]? = some (i : Int) ∧ (diffK a c i).length < (diffK a c n).length := by
  obtain ⟨r, hr⟩ := diff_pre (a := a) (c := c) (i := i + 1) (n - (i + 1))
  rw [Nat.add_sub_cancel' hi, diff_yes h] at hr
  rw [hr]
  constructor
  · rw [List.append_assoc, List.getElem?_append_right (Nat.le_refl _), Nat.sub_self]
    rfl
  · simp
theorem good_ok {N : Nat} {x : Blks × Blks} (h : Good N x) (h1 : 1 ≤ N) (h2 : N ≤ 4096) : okA x.1 x.2 = true := by
  have e1 := h.l1
  have e2 := h.l2
  have hb : badN (x.1.length : Int) = false := by
    rw [Bool.or_eq_false_iff]
    exact ⟨decide_eq_false (by omega), decide_eq_false (by omega)⟩
  rw [okA, hb, decide_eq_true (by omega)]
  rfl
theorem refl_no (e : Int) : (!decide (e = e)) = false := by simp
theorem differLaw_core (x y : D) (N M : Nat) (p1 p2 q1 q2 : Blks) (hR1 : FnIs Try.prog 25 [.d x] [] (ownA 64 N none 65 N none) [(64, rowB false p1), (65, rowB false p2)]) (hR2 : FnIs Try.prog 25 [.d y] [] (ownA 64 M none 65 M none) [(64, rowB false q1), (65, rowB false q2)])
    (hgp : Good N (p1, p2)) (hgq : Good M (q1, q2)) (n1 : 1 ≤ N) (n2 : N ≤ 20) (m1 : 1 ≤ M) (m2 : M ≤ 20) (hx : ∃ a b, x = .cons (u8s a) (.cons (.arr 3 encT b) .nil)) (hy : ∃ a b, y = .cons (u8s a) (.cons (.arr 3 encT b) .nil)) : FnIs Try.prog 6 [.d x, .d y] [] (.bool true) [] := by
  obtain ⟨xa, xb, rfl⟩ := hx
  obtain ⟨ya, yb, rfl⟩ := hy
  have lp1 : N = p1.length := hgp.l1.symm
  have lp2 : N = p2.length := hgp.l2.symm
  have lq1 : M = q1.length := hgq.l1.symm
  have lq2 : M = q2.length := hgq.l2.symm
  have sp1 : p1.length ≤ 1000000 := by omega
  have sp2 : p2.length ≤ 1000000 := by omega
  have sq1 : q1.length ≤ 1000000 := by omega
  have sq2 : q2.length ≤ 1000000 := by omega
  have hY1 := array_is p1 p2 (by omega) (by omega) (by omega) (by omega)
  have hY2 := array_is q1 q2 (by omega) (by omega) (by omega) (by omega)
  simp only [ownR, ← lp1, ← lp2, ← lq1, ← lq2] at hY1 hY2
  have o1 := good_ok hgp n1 (by omega)
  have o2 := good_ok hgq m1 (by omega)
  have f3 : (!(decide (p1 = p1) && decide (p2 = p2))) = false := by simp
  obtain ⟨v, hv, f1, f2⟩ : ∃ v : Bool, (decide (p1 = q1) && decide (p2 = q2)) = v ∧ ((decide (p1 = q1) && decide (p2 = q2)) != v) = false ∧ ((decide (q1 = p1) && decide (q2 = p2)) != v) = false := by
    refine ⟨_, rfl, by simp, ?_⟩
    rw [show decide (q1 = p1) = decide (p1 = q1) by rw [decide_eq_decide]; exact eq_comm, show decide (q2 = p2) = decide (p2 = q2) by rw [decide_eq_decide]; exact eq_comm]
    simp
  by_cases hNM : N = M
  · subst hNM
    have hDf := differ_ok p1 p2 q1 q2 o1 o2 (by omega)
    have d1 : (!decide ((N : Int) = (N : Int))) = false := by simp
    cases h1 : decide (p1 = q1) with
    | true =>
      rw [h1, Bool.true_and] at hv
      rw [← hv] at f1 f2
      refine fnIs_of tab_ok Try.func6 rfl rfl rfl ?_
      refine wc_seq ?_
      refine wc_region ?_
      refine reg_new (step_C tab_ok (fun K hk => hk)) rfl ?_
      refine reg_new (step_C tab_ok (fun K hk => hk)) rfl ?_
      refine reg_quiet rfl (step_C tab_ok (fun K hk => hk)) ?_
      refine reg_nil ?_
      refine seq_n ?_
      refine wc_seq ?_
      refine wc_draw (by kernel_rfl) ?_
      refine dreg_q [2] [64] rfl (load_box tab_ok rfl rfl rfl rfl) ?_
      refine dreg_w2 [14] [] rfl (call_new hR1 rfl rfl (arg_e arg_nil) (.inl rfl) rfl rfl) ?_
      refine dreg_q [3] [72] rfl (load_box tab_ok rfl rfl rfl rfl) ?_
      refine dreg_w2 [16] [] rfl (call_new hR2 rfl rfl (arg_e arg_nil) (.inl rfl) rfl rfl) ?_
      refine dreg_w [] [] rfl (step_C tab_ok (fun K hk => hk)) ?_
      refine dreg_w [] [] rfl (step_C tab_ok (fun K hk => hk)) ?_
      refine dreg_s [5, 15] [120, 96, 97] (store_row tab_ok rfl rfl rfl ⟨_, ⟨rfl, rfl, rfl⟩, rfl⟩ rfl) ?_
      refine dreg_s [6, 17] [128, 112, 113] (store_row tab_ok rfl rfl rfl ⟨_, ⟨rfl, rfl, rfl⟩, rfl⟩ rfl) ?_
      refine dreg_end (by kernel_rfl) ?_
      refine seq_n ?_
      refine wc_seq ?_
      refine wc_draw (by kernel_rfl) ?_
      refine dreg_q [5] [120, 96, 97] rfl (load_box tab_ok rfl rfl rfl rfl) ?_
      refine dreg_w2 [18] [96, 97] rfl (call_new hY1 rfl rfl (arg_A rfl rfl lp1 lp2 arg_nil) (.inr (own_plain _ _ _ _ _ _ _ _)) rfl rfl) ?_
      refine dreg_q [6] [128, 112, 113] rfl (load_box tab_ok rfl rfl rfl rfl) ?_
      refine dreg_w2 [20] [112, 113] rfl (call_new hY2 rfl rfl (arg_A rfl rfl lq1 lq2 arg_nil) (.inr (own_plain _ _ _ _ _ _ _ _)) rfl rfl) ?_
      refine dreg_w [] [] rfl (step_C tab_ok (fun K hk => hk)) ?_
      refine dreg_w [] [] rfl (step_C tab_ok (fun K hk => hk)) ?_
      refine dreg_s [7, 19] [184, 160, 161] (store_row tab_ok rfl rfl rfl ⟨_, ⟨rfl, rfl, rfl⟩, rfl⟩ rfl) ?_
      refine dreg_s [8, 21] [192, 176, 177] (store_row tab_ok rfl rfl rfl ⟨_, ⟨rfl, rfl, rfl⟩, rfl⟩ rfl) ?_
      refine dreg_end (by kernel_rfl) ?_
      refine seq_n ?_
      refine wc_seq ?_
      refine wc_region ?_
      refine reg_quiet rfl (step_C tab_ok (fun K hk => hk)) ?_
      refine reg_quiet rfl (load_box tab_ok rfl rfl rfl rfl) ?_
      refine reg_quiet rfl (step_C tab_ok (fun K hk => hk)) ?_
      refine reg_quiet rfl (load_box tab_ok rfl rfl rfl rfl) ?_
      refine reg_quiet rfl (call_r (refsame_is p1 q1 sp1 sq1) rfl rfl (arg_ownL rfl lp1 (arg_ownL rfl lq1 arg_nil)) (.inr (bool_plain _)) (fun _ => rfl)) ?_
      refine reg_quiet rfl (step_C tab_ok (fun K hk => hk)) ?_
      refine reg_on rfl rfl (by assumption) ?_
      refine reg_quiet rfl (step_C tab_ok (fun K hk => hk)) ?_
      refine reg_on rfl rfl (by assumption) ?_
      refine reg_quiet rfl (load_box tab_ok rfl rfl rfl rfl) ?_
      refine reg_on rfl rfl (by assumption) ?_
      refine reg_quiet rfl (step_C tab_ok (fun K hk => hk)) ?_
      refine reg_on rfl rfl (by assumption) ?_
      refine reg_quiet rfl (load_box tab_ok rfl rfl rfl rfl) ?_
      refine reg_on rfl rfl (by assumption) ?_
      refine reg_quiet rfl (call_r (refsame_is p2 q2 sp2 sq2) rfl rfl (arg_ownL rfl lp2 (arg_ownL rfl lq2 arg_nil)) (.inr (bool_plain _)) (fun _ => rfl)) ?_
      refine reg_quiet rfl (pick_T tab_ok rfl (by assumption) rfl) ?_
      refine reg_quiet rfl (step_C tab_ok (fun K hk => hk)) ?_
      refine reg_nil ?_
      refine seq_n ?_
      refine wc_seq ?_
      refine wc_region ?_
      refine reg_quiet rfl (load_box tab_ok rfl rfl rfl rfl) ?_
      refine reg_quiet rfl (load_box tab_ok rfl rfl rfl rfl) ?_
      refine reg_new (call_new hDf rfl rfl (arg_A rfl rfl lp1 lp2 (arg_A rfl rfl lq1 lq2 arg_nil)) (.inr (diff_plain _ _ _ _ _)) rfl rfl) rfl ?_
      refine reg_quiet rfl (step_C tab_ok (fun K hk => hk)) ?_
      refine reg_quiet rfl (step_C tab_ok (fun K hk => hk)) ?_
      refine reg_quiet rfl (step_C tab_ok (fun K hk => hk)) ?_
      refine reg_quiet rfl (step_C tab_ok (fun K hk => hk)) ?_
      refine reg_quiet rfl (step_C tab_ok (fun K hk => hk)) ?_
      refine reg_nil ?_
      refine seq_n ?_
      refine wc_seq ?_
      refine wc_seq ?_
      refine wc_region ?_
      refine reg_quiet rfl (load_box tab_ok rfl rfl rfl rfl) ?_
      refine reg_quiet rfl (load_box tab_ok rfl rfl rfl rfl) ?_
      refine reg_quiet rfl (call_r (same_is p1 p2 q1 q2 sp1 sp2 sq1 sq2) rfl rfl (arg_A rfl rfl lp1 lp2 (arg_A rfl rfl lq1 lq2 arg_nil)) (.inr (bool_plain _)) (fun _ => rfl)) ?_
      refine reg_quiet rfl (step_C tab_ok (fun K hk => hk)) ?_
      refine reg_quiet rfl (step_C tab_ok (fun K hk => hk)) ?_
      refine reg_quiet rfl (step_C tab_ok (fun K hk => hk)) ?_
      refine reg_on rfl rfl (by assumption) ?_
      refine reg_quiet rfl (load_box tab_ok rfl rfl rfl rfl) ?_
      refine reg_on rfl rfl (by assumption) ?_
      refine reg_quiet rfl (load_box tab_ok rfl rfl rfl rfl) ?_
      refine reg_on rfl rfl (by assumption) ?_
      refine reg_quiet rfl (call_r (same_is q1 q2 p1 p2 sq1 sq2 sp1 sp2) rfl rfl (arg_A rfl rfl lq1 lq2 (arg_A rfl rfl lp1 lp2 arg_nil)) (.inr (bool_plain _)) (fun _ => rfl)) ?_
      refine reg_on rfl rfl (by assumption) ?_
      refine reg_quiet rfl (step_C tab_ok (fun K hk => hk)) ?_
      refine reg_on rfl rfl (by assumption) ?_
      refine reg_quiet rfl (step_C tab_ok (fun K hk => hk)) ?_
      refine reg_quiet rfl (pick_F tab_ok rfl (by assumption) rfl) ?_
      refine reg_quiet rfl (step_C tab_ok (fun K hk => hk)) ?_
      refine reg_on rfl rfl (by assumption) ?_
      refine reg_quiet rfl (load_box tab_ok rfl rfl rfl rfl) ?_
      refine reg_on rfl rfl (by assumption) ?_
      refine reg_quiet rfl (load_box tab_ok rfl rfl rfl rfl) ?_
      refine reg_on rfl rfl (by assumption) ?_
      refine reg_quiet rfl (call_r (same_is p1 p2 p1 p2 sp1 sp2 sp1 sp2) rfl rfl (arg_A rfl rfl lp1 lp2 (arg_A rfl rfl lp1 lp2 arg_nil)) (.inr (bool_plain _)) (fun _ => rfl)) ?_
      refine reg_on rfl rfl (by assumption) ?_
      refine reg_quiet rfl (step_C tab_ok (fun K hk => hk)) ?_
      refine reg_quiet rfl (pick_F tab_ok rfl (by assumption) rfl) ?_
      refine reg_nil ?_
      refine seq_n ?_
      refine wc_false rfl (by assumption) ?_
      refine wc_skip ?_
      refine seq_n ?_
      refine wc_seq ?_
      refine wc_seq ?_
      refine wc_region ?_
      refine reg_quiet rfl (step_C tab_ok (fun K hk => hk)) ?_
      refine reg_quiet rfl (load_box tab_ok rfl rfl rfl rfl) ?_
      refine reg_quiet rfl (len_own tab_ok rfl rfl) ?_
      refine reg_quiet rfl (step_C tab_ok (fun K hk => hk)) ?_
      refine reg_quiet rfl (load_box tab_ok rfl rfl rfl rfl) ?_
      refine reg_quiet rfl (len_own tab_ok rfl rfl) ?_
      refine reg_quiet rfl (step_C tab_ok (fun K hk => hk)) ?_
      refine reg_nil ?_
      refine seq_n ?_
      refine wc_false rfl (by assumption) ?_
      refine wc_skip ?_
      refine seq_n ?_
      refine wc_seq ?_
      refine wc_region ?_
      refine reg_quiet rfl (step_C tab_ok (fun K hk => hk)) ?_
      refine reg_nil ?_
      refine seq_n ?_
      refine wc_seq ?_
      refine wc_seq ?_
      refine wc_region ?_
      refine reg_quiet rfl (step_C tab_ok (fun K hk => hk)) ?_
      refine reg_nil ?_
      refine seq_n ?_
      refine wc_block ?_
      refine wc_inv (fun i : Nat => ⟨[(13, .int .i64 i), (12, .int .i64 (diffK p1 q1 i).length), (10, .own 70 0 (diffK p1 q1 p1.length).length 1 (some (diffK p1 q1 p1.length).length)), (11, .int .i64 0), (5, .ptr 64 []), (6, .ptr 67 [])], [(64, some (.box 35 (ownA 65 N none 66 N none))), (65, some (rowB false p1)), (67, some (.box 35 (ownA 68 N none 69 N none))), (68, some (rowB false q1)), (70, some (.ds 3 1 false i6 (diffK p1 q1 p1.length)))], 72, Try.f6.ntmps, 64⟩) (fun i => i ≤ N) (fun i => N - i) 0 [(64, some 120), (65, some 96), (66, some 97), (67, some 128), (68, some 112), (69, some 113), (70, some 336)] (Nat.zero_le _)
        (.of rfl rfl rfl rfl rfl ⟨⟨_, rfl, .refl _⟩, rfl, ⟨_, rfl, .refl _⟩, rfl, ⟨_, rfl, .refl _⟩, rfl, ⟨_, rfl, .refl _⟩, rfl, ⟨_, rfl, .refl _⟩, rfl, ⟨_, rfl, .refl _⟩, rfl, trivial⟩ ⟨⟨rfl, rfl, _, rfl, .refl _⟩, ⟨rfl, rfl, _, rfl, .refl _⟩, ⟨rfl, rfl, _, rfl, .refl _⟩, ⟨rfl, rfl, _, rfl, .refl _⟩, ⟨rfl, rfl, _, rfl, .refl _⟩, trivial⟩) ?_
      intro i hi
      have hdl := diff_len p1 q1 i
      refine wc_of ?_
      refine wc_seq ?_
      refine wc_seq ?_
      refine wc_region ?_
      refine reg_quiet rfl (step_C tab_ok (fun K hk => hk)) ?_
      refine reg_quiet rfl (step_C tab_ok (fun K hk => hk)) ?_
      refine reg_quiet rfl (load_box tab_ok rfl rfl rfl rfl) ?_
      refine reg_quiet rfl (len_own tab_ok rfl rfl) ?_
      refine reg_quiet rfl (step_C tab_ok (fun K hk => hk)) ?_
      refine reg_nil ?_
      refine seq_n ?_
      refine wc_cond rfl (fun h3 => ?_) (fun h3 => ?_)
      · have hlt : i < N := by have := of_decide_eq_true h3; omega
        obtain ⟨f, hf0⟩ : ∃ f, p1[i]? = some f := ⟨_, List.getElem?_eq_getElem (by omega)⟩
        obtain ⟨g, hg0⟩ : ∃ g, q1[i]? = some g := ⟨_, List.getElem?_eq_getElem (by omega)⟩
        have hf : p1[((i : Int)).toNat]? = some f := by rw [Int.toNat_natCast]; exact hf0
        have hg : q1[((i : Int)).toNat]? = some g := by rw [Int.toNat_natCast]; exact hg0
        refine wc_skip ?_
        refine seq_n ?_
        refine wc_seq ?_
        refine wc_block ?_
        refine wc_seq ?_
        refine wc_draw (by kernel_rfl) ?_
        refine dreg_q [5] [64, 65, 66] rfl (step_C tab_ok (fun K hk => hk)) ?_
        refine dreg_q [82] [64, 65, 66] rfl (load_box tab_ok rfl rfl rfl rfl) ?_
        refine dreg_q [13] [] rfl (step_C tab_ok (fun K hk => hk)) ?_
        refine dreg_q [83, 84] [65] rfl (index_own tab_ok rfl rfl rfl rfl rfl (by omega) (by omega)) ?_
        refine dreg_q [85] [65] rfl (load_row (v := .d (encBlock f)) tab_ok rfl rfl ⟨rfl, f, hf, encBlock f, rfl, rfl⟩ rfl) ?_
        refine dreg_q [6] [67, 68, 69] rfl (step_C tab_ok (fun K hk => hk)) ?_
        refine dreg_q [87] [67, 68, 69] rfl (load_box tab_ok rfl rfl rfl rfl) ?_
        refine dreg_q [13] [] rfl (step_C tab_ok (fun K hk => hk)) ?_
        refine dreg_q [88, 89] [68] rfl (index_own tab_ok rfl rfl rfl rfl rfl (by omega) (by omega)) ?_
        refine dreg_q [90] [68] rfl (load_row (v := .d (encBlock g)) tab_ok rfl rfl ⟨rfl, g, hg, encBlock g, rfl, rfl⟩ rfl) ?_
        refine dreg_q [86, 91] [] rfl (neq_data rfl rfl rfl rfl (by kernel_rfl) (by decide) (block_eq f g)) ?_
        refine dreg_end (by kernel_rfl) ?_
        refine seq_n ?_
        refine wc_cond rfl (fun hu => ?_) (fun hu => ?_)
        · have hne : p1[i]? ≠ q1[i]? := by rw [hf0, hg0]; intro e; cases e; simp at hu
          have hs := diff_yes hne
          obtain ⟨hat, hkl⟩ := diff_at (n := p1.length) (by omega) hne
          have hli : (diffK p1 q1 p1.length)[(((diffK p1 q1 i).length : Int)).toNat]? = some (i : Int) := by rw [Int.toNat_natCast]; exact hat
          have c1 : decide (((diffK p1 q1 i).length : Int) ≥ ((diffK p1 q1 p1.length).length : Int)) = false := decide_eq_false (by omega)
          have c2 := refl_no (i : Int)
          refine wc_seq ?_
          refine wc_seq ?_
          refine wc_region ?_
          refine reg_quiet rfl (step_C tab_ok (fun K hk => hk)) ?_
          refine reg_quiet rfl (step_C tab_ok (fun K hk => hk)) ?_
          refine reg_quiet rfl (len_own tab_ok rfl rfl) ?_
          refine reg_quiet rfl (step_C tab_ok (fun K hk => hk)) ?_
          refine reg_quiet rfl (step_C tab_ok (fun K hk => hk)) ?_
          refine reg_on rfl rfl (by assumption) ?_
          refine reg_quiet rfl (step_C tab_ok (fun K hk => hk)) ?_
          refine reg_on rfl rfl (by assumption) ?_
          refine reg_quiet rfl (step_C tab_ok (fun K hk => hk)) ?_
          refine reg_on rfl rfl (by assumption) ?_
          refine reg_quiet rfl (index_own tab_ok rfl rfl rfl rfl rfl (by omega) (by omega)) ?_
          refine reg_on rfl rfl (by assumption) ?_
          refine reg_quiet rfl (load_row (v := .int .i64 i) tab_ok rfl rfl ⟨rfl, (i : Int), hli, i6 i, rfl, rfl⟩ rfl) ?_
          refine reg_on rfl rfl (by assumption) ?_
          refine reg_quiet rfl (step_C tab_ok (fun K hk => hk)) ?_
          refine reg_on rfl rfl (by assumption) ?_
          refine reg_quiet rfl (step_C tab_ok (fun K hk => hk)) ?_
          refine reg_quiet rfl (pick_F tab_ok rfl (by assumption) rfl) ?_
          refine reg_nil ?_
          refine seq_n ?_
          refine wc_false rfl (by assumption) ?_
          refine wc_skip ?_
          refine seq_n ?_
          refine wc_region ?_
          refine reg_quiet rfl (step_C tab_ok (fun K hk => hk)) ?_
          refine reg_quiet rfl (add_int tab_ok rfl rfl (wrap_i64 (by omega) (by omega))) ?_
          refine reg_quiet rfl (step_C tab_ok (fun K hk => hk)) ?_
          refine reg_nil ?_
          refine blk_n ?_
          refine seq_n ?_
          refine wc_region ?_
          refine reg_quiet rfl (step_C tab_ok (fun K hk => hk)) ?_
          refine reg_quiet rfl (add_int tab_ok rfl rfl (wrap_i64 (by omega) (by omega))) ?_
          refine reg_quiet rfl (step_C tab_ok (fun K hk => hk)) ?_
          refine reg_nil ?_
          refine loop_n (i + 1) [(64, some 64), (65, some 65), (67, some 67), (68, some 68), (70, some 70)] (show i + 1 ≤ N from hlt) (show N - (i + 1) < N - i by omega) ?_
          exact .of rfl rfl rfl rfl rfl ⟨⟨_, rfl, .refl _⟩, rfl, ⟨_, rfl, .of_eq (by rw [hs, List.length_append]; rfl)⟩, rfl, ⟨_, rfl, .refl _⟩, rfl, ⟨_, rfl, .refl _⟩, rfl, ⟨_, rfl, .refl _⟩, rfl, ⟨_, rfl, .refl _⟩, rfl, trivial⟩ ⟨⟨rfl, rfl, _, rfl, .refl _⟩, ⟨rfl, rfl, _, rfl, .refl _⟩, ⟨rfl, rfl, _, rfl, .refl _⟩, ⟨rfl, rfl, _, rfl, .refl _⟩, ⟨rfl, rfl, _, rfl, .refl _⟩, trivial⟩
        · have hs := diff_no (a := p1) (c := q1) (k := i) (by rw [hf0, hg0]; simp at hu; rw [hu])
          refine wc_skip ?_
          refine blk_n ?_
          refine seq_n ?_
          refine wc_region ?_
          refine reg_quiet rfl (step_C tab_ok (fun K hk => hk)) ?_
          refine reg_quiet rfl (add_int tab_ok rfl rfl (wrap_i64 (by omega) (by omega))) ?_
          refine reg_quiet rfl (step_C tab_ok (fun K hk => hk)) ?_
          refine reg_nil ?_
          refine loop_n (i + 1) [(64, some 64), (65, some 65), (67, some 67), (68, some 68), (70, some 70)] (show i + 1 ≤ N from hlt) (show N - (i + 1) < N - i by omega) ?_
          exact .of rfl rfl rfl rfl rfl ⟨⟨_, rfl, .refl _⟩, rfl, ⟨_, rfl, .of_eq (by rw [hs]; rfl)⟩, rfl, ⟨_, rfl, .refl _⟩, rfl, ⟨_, rfl, .refl _⟩, rfl, ⟨_, rfl, .refl _⟩, rfl, ⟨_, rfl, .refl _⟩, rfl, trivial⟩ ⟨⟨rfl, rfl, _, rfl, .refl _⟩, ⟨rfl, rfl, _, rfl, .refl _⟩, ⟨rfl, rfl, _, rfl, .refl _⟩, ⟨rfl, rfl, _, rfl, .refl _⟩, ⟨rfl, rfl, _, rfl, .refl _⟩, trivial⟩
      · obtain rfl : i = N := by have := of_decide_eq_false h3; omega
        have e1 : decide (((diffK p1 q1 i).length : Int) = ((diffK p1 q1 p1.length).length : Int)) = true := by rw [← lp1]; simp
        have e2 : decide (((diffK p1 q1 p1.length).length : Int) = ((diffK p1 q1 p1.length).length : Int)) = true := by simp
        refine wc_exit ?_
        refine seq_x ?_
        refine loop_x ?_
        refine blk_x ?_
        refine seq_n ?_
        refine wc_seq ?_
        refine wc_region ?_
        refine reg_quiet rfl (step_C tab_ok (fun K hk => hk)) ?_
        refine reg_quiet rfl (step_C tab_ok (fun K hk => hk)) ?_
        refine reg_quiet rfl (step_C tab_ok (fun K hk => hk)) ?_
        refine reg_on rfl rfl rfl ?_
        refine reg_quiet rfl (step_C tab_ok (fun K hk => hk)) ?_
        refine reg_on rfl rfl rfl ?_
        refine reg_quiet rfl (step_C tab_ok (fun K hk => hk)) ?_
        refine reg_on rfl rfl rfl ?_
        refine reg_quiet rfl (len_own tab_ok rfl rfl) ?_
        refine reg_on rfl rfl rfl ?_
        refine reg_quiet rfl (step_C tab_ok (fun K hk => hk)) ?_
        refine reg_quiet rfl (pick_T tab_ok rfl rfl rfl) ?_
        refine reg_quiet rfl (step_C tab_ok (fun K hk => hk)) ?_
        refine reg_on rfl rfl (by assumption) ?_
        refine reg_quiet rfl (step_C tab_ok (fun K hk => hk)) ?_
        refine reg_on rfl rfl (by assumption) ?_
        refine reg_quiet rfl (cap_own tab_ok rfl rfl) ?_
        refine reg_on rfl rfl (by assumption) ?_
        refine reg_quiet rfl (step_C tab_ok (fun K hk => hk)) ?_
        refine reg_on rfl rfl (by assumption) ?_
        refine reg_quiet rfl (len_own tab_ok rfl rfl) ?_
        refine reg_on rfl rfl (by assumption) ?_
        refine reg_quiet rfl (step_C tab_ok (fun K hk => hk)) ?_
        refine reg_quiet rfl (pick_T tab_ok rfl (by assumption) rfl) ?_
        refine reg_quiet rfl (step_C tab_ok (fun K hk => hk)) ?_
        refine reg_on rfl rfl (by assumption) ?_
        refine reg_quiet rfl (call_r lives_is rfl rfl arg_nil (.inl rfl) (fun _ => rfl)) ?_
        refine reg_quiet rfl (pick_T tab_ok rfl (by assumption) rfl) ?_
        refine reg_quiet rfl (step_C tab_ok (fun K hk => hk)) ?_
        refine reg_nil ?_
        refine seq_n ?_
        refine wc_ret ?_
        exact ⟨trivial, [], .of rfl rfl rfl rfl rfl ⟨⟨_, rfl, AVLe.of_eq rfl⟩, rfl, trivial⟩ trivial⟩
    | false =>
      rw [h1, Bool.false_and] at hv
      rw [← hv] at f1 f2
      refine fnIs_of tab_ok Try.func6 rfl rfl rfl ?_
      refine wc_seq ?_
      refine wc_region ?_
      refine reg_new (step_C tab_ok (fun K hk => hk)) rfl ?_
      refine reg_new (step_C tab_ok (fun K hk => hk)) rfl ?_
      refine reg_quiet rfl (step_C tab_ok (fun K hk => hk)) ?_
      refine reg_nil ?_
      refine seq_n ?_
      refine wc_seq ?_
      refine wc_draw (by kernel_rfl) ?_
      refine dreg_q [2] [64] rfl (load_box tab_ok rfl rfl rfl rfl) ?_
      refine dreg_w2 [14] [] rfl (call_new hR1 rfl rfl (arg_e arg_nil) (.inl rfl) rfl rfl) ?_
      refine dreg_q [3] [72] rfl (load_box tab_ok rfl rfl rfl rfl) ?_
      refine dreg_w2 [16] [] rfl (call_new hR2 rfl rfl (arg_e arg_nil) (.inl rfl) rfl rfl) ?_
      refine dreg_w [] [] rfl (step_C tab_ok (fun K hk => hk)) ?_
      refine dreg_w [] [] rfl (step_C tab_ok (fun K hk => hk)) ?_
      refine dreg_s [5, 15] [120, 96, 97] (store_row tab_ok rfl rfl rfl ⟨_, ⟨rfl, rfl, rfl⟩, rfl⟩ rfl) ?_
      refine dreg_s [6, 17] [128, 112, 113] (store_row tab_ok rfl rfl rfl ⟨_, ⟨rfl, rfl, rfl⟩, rfl⟩ rfl) ?_
      refine dreg_end (by kernel_rfl) ?_
      refine seq_n ?_
      refine wc_seq ?_
      refine wc_draw (by kernel_rfl) ?_
      refine dreg_q [5] [120, 96, 97] rfl (load_box tab_ok rfl rfl rfl rfl) ?_
      refine dreg_w2 [18] [96, 97] rfl (call_new hY1 rfl rfl (arg_A rfl rfl lp1 lp2 arg_nil) (.inr (own_plain _ _ _ _ _ _ _ _)) rfl rfl) ?_
      refine dreg_q [6] [128, 112, 113] rfl (load_box tab_ok rfl rfl rfl rfl) ?_
      refine dreg_w2 [20] [112, 113] rfl (call_new hY2 rfl rfl (arg_A rfl rfl lq1 lq2 arg_nil) (.inr (own_plain _ _ _ _ _ _ _ _)) rfl rfl) ?_
      refine dreg_w [] [] rfl (step_C tab_ok (fun K hk => hk)) ?_
      refine dreg_w [] [] rfl (step_C tab_ok (fun K hk => hk)) ?_
      refine dreg_s [7, 19] [184, 160, 161] (store_row tab_ok rfl rfl rfl ⟨_, ⟨rfl, rfl, rfl⟩, rfl⟩ rfl) ?_
      refine dreg_s [8, 21] [192, 176, 177] (store_row tab_ok rfl rfl rfl ⟨_, ⟨rfl, rfl, rfl⟩, rfl⟩ rfl) ?_
      refine dreg_end (by kernel_rfl) ?_
      refine seq_n ?_
      refine wc_seq ?_
      refine wc_region ?_
      refine reg_quiet rfl (step_C tab_ok (fun K hk => hk)) ?_
      refine reg_quiet rfl (load_box tab_ok rfl rfl rfl rfl) ?_
      refine reg_quiet rfl (step_C tab_ok (fun K hk => hk)) ?_
      refine reg_quiet rfl (load_box tab_ok rfl rfl rfl rfl) ?_
      refine reg_quiet rfl (call_r (refsame_is p1 q1 sp1 sq1) rfl rfl (arg_ownL rfl lp1 (arg_ownL rfl lq1 arg_nil)) (.inr (bool_plain _)) (fun _ => rfl)) ?_
      refine reg_quiet rfl (step_C tab_ok (fun K hk => hk)) ?_
      refine reg_skip rfl rfl (by assumption) rfl rfl ?_
      refine reg_skip rfl rfl (by assumption) rfl rfl ?_
      refine reg_skip rfl rfl (by assumption) rfl rfl ?_
      refine reg_skip rfl rfl (by assumption) rfl rfl ?_
      refine reg_skip rfl rfl (by assumption) rfl rfl ?_
      refine reg_quiet rfl (pick_F tab_ok rfl (by assumption) rfl) ?_
      refine reg_quiet rfl (step_C tab_ok (fun K hk => hk)) ?_
      refine reg_nil ?_
      refine seq_n ?_
      refine wc_seq ?_
      refine wc_region ?_
      refine reg_quiet rfl (load_box tab_ok rfl rfl rfl rfl) ?_
      refine reg_quiet rfl (load_box tab_ok rfl rfl rfl rfl) ?_
      refine reg_new (call_new hDf rfl rfl (arg_A rfl rfl lp1 lp2 (arg_A rfl rfl lq1 lq2 arg_nil)) (.inr (diff_plain _ _ _ _ _)) rfl rfl) rfl ?_
      refine reg_quiet rfl (step_C tab_ok (fun K hk => hk)) ?_
      refine reg_quiet rfl (step_C tab_ok (fun K hk => hk)) ?_
      refine reg_quiet rfl (step_C tab_ok (fun K hk => hk)) ?_
      refine reg_quiet rfl (step_C tab_ok (fun K hk => hk)) ?_
      refine reg_quiet rfl (step_C tab_ok (fun K hk => hk)) ?_
      refine reg_nil ?_
      refine seq_n ?_
      refine wc_seq ?_
      refine wc_seq ?_
      refine wc_region ?_
      refine reg_quiet rfl (load_box tab_ok rfl rfl rfl rfl) ?_
      refine reg_quiet rfl (load_box tab_ok rfl rfl rfl rfl) ?_
      refine reg_quiet rfl (call_r (same_is p1 p2 q1 q2 sp1 sp2 sq1 sq2) rfl rfl (arg_A rfl rfl lp1 lp2 (arg_A rfl rfl lq1 lq2 arg_nil)) (.inr (bool_plain _)) (fun _ => rfl)) ?_
      refine reg_quiet rfl (step_C tab_ok (fun K hk => hk)) ?_
      refine reg_quiet rfl (step_C tab_ok (fun K hk => hk)) ?_
      refine reg_quiet rfl (step_C tab_ok (fun K hk => hk)) ?_
      refine reg_on rfl rfl (by assumption) ?_
      refine reg_quiet rfl (load_box tab_ok rfl rfl rfl rfl) ?_
      refine reg_on rfl rfl (by assumption) ?_
      refine reg_quiet rfl (load_box tab_ok rfl rfl rfl rfl) ?_
      refine reg_on rfl rfl (by assumption) ?_
      refine reg_quiet rfl (call_r (same_is q1 q2 p1 p2 sq1 sq2 sp1 sp2) rfl rfl (arg_A rfl rfl lq1 lq2 (arg_A rfl rfl lp1 lp2 arg_nil)) (.inr (bool_plain _)) (fun _ => rfl)) ?_
      refine reg_on rfl rfl (by assumption) ?_
      refine reg_quiet rfl (step_C tab_ok (fun K hk => hk)) ?_
      refine reg_on rfl rfl (by assumption) ?_
      refine reg_quiet rfl (step_C tab_ok (fun K hk => hk)) ?_
      refine reg_quiet rfl (pick_F tab_ok rfl (by assumption) rfl) ?_
      refine reg_quiet rfl (step_C tab_ok (fun K hk => hk)) ?_
      refine reg_on rfl rfl (by assumption) ?_
      refine reg_quiet rfl (load_box tab_ok rfl rfl rfl rfl) ?_
      refine reg_on rfl rfl (by assumption) ?_
      refine reg_quiet rfl (load_box tab_ok rfl rfl rfl rfl) ?_
      refine reg_on rfl rfl (by assumption) ?_
      refine reg_quiet rfl (call_r (same_is p1 p2 p1 p2 sp1 sp2 sp1 sp2) rfl rfl (arg_A rfl rfl lp1 lp2 (arg_A rfl rfl lp1 lp2 arg_nil)) (.inr (bool_plain _)) (fun _ => rfl)) ?_
      refine reg_on rfl rfl (by assumption) ?_
      refine reg_quiet rfl (step_C tab_ok (fun K hk => hk)) ?_
      refine reg_quiet rfl (pick_F tab_ok rfl (by assumption) rfl) ?_
      refine reg_nil ?_
      refine seq_n ?_
      refine wc_false rfl (by assumption) ?_
      refine wc_skip ?_
      refine seq_n ?_
      refine wc_seq ?_
      refine wc_seq ?_
      refine wc_region ?_
      refine reg_quiet rfl (step_C tab_ok (fun K hk => hk)) ?_
      refine reg_quiet rfl (load_box tab_ok rfl rfl rfl rfl) ?_
      refine reg_quiet rfl (len_own tab_ok rfl rfl) ?_
      refine reg_quiet rfl (step_C tab_ok (fun K hk => hk)) ?_
      refine reg_quiet rfl (load_box tab_ok rfl rfl rfl rfl) ?_
      refine reg_quiet rfl (len_own tab_ok rfl rfl) ?_
      refine reg_quiet rfl (step_C tab_ok (fun K hk => hk)) ?_
      refine reg_nil ?_
      refine seq_n ?_
      refine wc_false rfl (by assumption) ?_
      refine wc_skip ?_
      refine seq_n ?_
      refine wc_seq ?_
      refine wc_region ?_
      refine reg_quiet rfl (step_C tab_ok (fun K hk => hk)) ?_
      refine reg_nil ?_
      refine seq_n ?_
      refine wc_seq ?_
      refine wc_seq ?_
      refine wc_region ?_
      refine reg_quiet rfl (step_C tab_ok (fun K hk => hk)) ?_
      refine reg_nil ?_
      refine seq_n ?_
      refine wc_block ?_
      refine wc_inv (fun i : Nat => ⟨[(13, .int .i64 i), (12, .int .i64 (diffK p1 q1 i).length), (10, .own 70 0 (diffK p1 q1 p1.length).length 1 (some (diffK p1 q1 p1.length).length)), (11, .int .i64 0), (5, .ptr 64 []), (6, .ptr 67 [])], [(64, some (.box 35 (ownA 65 N none 66 N none))), (65, some (rowB false p1)), (67, some (.box 35 (ownA 68 N none 69 N none))), (68, some (rowB false q1)), (70, some (.ds 3 1 false i6 (diffK p1 q1 p1.length)))], 72, Try.f6.ntmps, 64⟩) (fun i => i ≤ N) (fun i => N - i) 0 [(64, some 120), (65, some 96), (66, some 97), (67, some 128), (68, some 112), (69, some 113), (70, some 336)] (Nat.zero_le _)
        (.of rfl rfl rfl rfl rfl ⟨⟨_, rfl, .refl _⟩, rfl, ⟨_, rfl, .refl _⟩, rfl, ⟨_, rfl, .refl _⟩, rfl, ⟨_, rfl, .refl _⟩, rfl, ⟨_, rfl, .refl _⟩, rfl, ⟨_, rfl, .refl _⟩, rfl, trivial⟩ ⟨⟨rfl, rfl, _, rfl, .refl _⟩, ⟨rfl, rfl, _, rfl, .refl _⟩, ⟨rfl, rfl, _, rfl, .refl _⟩, ⟨rfl, rfl, _, rfl, .refl _⟩, ⟨rfl, rfl, _, rfl, .refl _⟩, trivial⟩) ?_
      intro i hi
      have hdl := diff_len p1 q1 i
      refine wc_of ?_
      refine wc_seq ?_
      refine wc_seq ?_
      refine wc_region ?_
      refine reg_quiet rfl (step_C tab_ok (fun K hk => hk)) ?_
      refine reg_quiet rfl (step_C tab_ok (fun K hk => hk)) ?_
      refine reg_quiet rfl (load_box tab_ok rfl rfl rfl rfl) ?_
      refine reg_quiet rfl (len_own tab_ok rfl rfl) ?_
      refine reg_quiet rfl (step_C tab_ok (fun K hk => hk)) ?_
      refine reg_nil ?_
      refine seq_n ?_
      refine wc_cond rfl (fun h3 => ?_) (fun h3 => ?_)
      · have hlt : i < N := by have := of_decide_eq_true h3; omega
        obtain ⟨f, hf0⟩ : ∃ f, p1[i]? = some f := ⟨_, List.getElem?_eq_getElem (by omega)⟩
        obtain ⟨g, hg0⟩ : ∃ g, q1[i]? = some g := ⟨_, List.getElem?_eq_getElem (by omega)⟩
        have hf : p1[((i : Int)).toNat]? = some f := by rw [Int.toNat_natCast]; exact hf0
        have hg : q1[((i : Int)).toNat]? = some g := by rw [Int.toNat_natCast]; exact hg0
        refine wc_skip ?_
        refine seq_n ?_
        refine wc_seq ?_
        refine wc_block ?_
        refine wc_seq ?_
        refine wc_draw (by kernel_rfl) ?_
        refine dreg_q [5] [64, 65, 66] rfl (step_C tab_ok (fun K hk => hk)) ?_
        refine dreg_q [82] [64, 65, 66] rfl (load_box tab_ok rfl rfl rfl rfl) ?_
        refine dreg_q [13] [] rfl (step_C tab_ok (fun K hk => hk)) ?_
        refine dreg_q [83, 84] [65] rfl (index_own tab_ok rfl rfl rfl rfl rfl (by omega) (by omega)) ?_
        refine dreg_q [85] [65] rfl (load_row (v := .d (encBlock f)) tab_ok rfl rfl ⟨rfl, f, hf, encBlock f, rfl, rfl⟩ rfl) ?_
        refine dreg_q [6] [67, 68, 69] rfl (step_C tab_ok (fun K hk => hk)) ?_
        refine dreg_q [87] [67, 68, 69] rfl (load_box tab_ok rfl rfl rfl rfl) ?_
        refine dreg_q [13] [] rfl (step_C tab_ok (fun K hk => hk)) ?_
        refine dreg_q [88, 89] [68] rfl (index_own tab_ok rfl rfl rfl rfl rfl (by omega) (by omega)) ?_
        refine dreg_q [90] [68] rfl (load_row (v := .d (encBlock g)) tab_ok rfl rfl ⟨rfl, g, hg, encBlock g, rfl, rfl⟩ rfl) ?_
        refine dreg_q [86, 91] [] rfl (neq_data rfl rfl rfl rfl (by kernel_rfl) (by decide) (block_eq f g)) ?_
        refine dreg_end (by kernel_rfl) ?_
        refine seq_n ?_
        refine wc_cond rfl (fun hu => ?_) (fun hu => ?_)
        · have hne : p1[i]? ≠ q1[i]? := by rw [hf0, hg0]; intro e; cases e; simp at hu
          have hs := diff_yes hne
          obtain ⟨hat, hkl⟩ := diff_at (n := p1.length) (by omega) hne
          have hli : (diffK p1 q1 p1.length)[(((diffK p1 q1 i).length : Int)).toNat]? = some (i : Int) := by rw [Int.toNat_natCast]; exact hat
          have c1 : decide (((diffK p1 q1 i).length : Int) ≥ ((diffK p1 q1 p1.length).length : Int)) = false := decide_eq_false (by omega)
          have c2 := refl_no (i : Int)
          refine wc_seq ?_
          refine wc_seq ?_
          refine wc_region ?_
          refine reg_quiet rfl (step_C tab_ok (fun K hk => hk)) ?_
          refine reg_quiet rfl (step_C tab_ok (fun K hk => hk)) ?_
          refine reg_quiet rfl (len_own tab_ok rfl rfl) ?_
          refine reg_quiet rfl (step_C tab_ok (fun K hk => hk)) ?_
          refine reg_quiet rfl (step_C tab_ok (fun K hk => hk)) ?_
          refine reg_on rfl rfl (by assumption) ?_
          refine reg_quiet rfl (step_C tab_ok (fun K hk => hk)) ?_
          refine reg_on rfl rfl (by assumption) ?_
          refine reg_quiet rfl (step_C tab_ok (fun K hk => hk)) ?_
          refine reg_on rfl rfl (by assumption) ?_
          refine reg_quiet rfl (index_own tab_ok rfl rfl rfl rfl rfl (by omega) (by omega)) ?_
          refine reg_on rfl rfl (by assumption) ?_
          refine reg_quiet rfl (load_row (v := .int .i64 i) tab_ok rfl rfl ⟨rfl, (i : Int), hli, i6 i, rfl, rfl⟩ rfl) ?_
          refine reg_on rfl rfl (by assumption) ?_
          refine reg_quiet rfl (step_C tab_ok (fun K hk => hk)) ?_
          refine reg_on rfl rfl (by assumption) ?_
          refine reg_quiet rfl (step_C tab_ok (fun K hk => hk)) ?_
          refine reg_quiet rfl (pick_F tab_ok rfl (by assumption) rfl) ?_
          refine reg_nil ?_
          refine seq_n ?_
          refine wc_false rfl (by assumption) ?_
          refine wc_skip ?_
          refine seq_n ?_
          refine wc_region ?_
          refine reg_quiet rfl (step_C tab_ok (fun K hk => hk)) ?_
          refine reg_quiet rfl (add_int tab_ok rfl rfl (wrap_i64 (by omega) (by omega))) ?_
          refine reg_quiet rfl (step_C tab_ok (fun K hk => hk)) ?_
          refine reg_nil ?_
          refine blk_n ?_
          refine seq_n ?_
          refine wc_region ?_
          refine reg_quiet rfl (step_C tab_ok (fun K hk => hk)) ?_
          refine reg_quiet rfl (add_int tab_ok rfl rfl (wrap_i64 (by omega) (by omega))) ?_
          refine reg_quiet rfl (step_C tab_ok (fun K hk => hk)) ?_
          refine reg_nil ?_
          refine loop_n (i + 1) [(64, some 64), (65, some 65), (67, some 67), (68, some 68), (70, some 70)] (show i + 1 ≤ N from hlt) (show N - (i + 1) < N - i by omega) ?_
          exact .of rfl rfl rfl rfl rfl ⟨⟨_, rfl, .refl _⟩, rfl, ⟨_, rfl, .of_eq (by rw [hs, List.length_append]; rfl)⟩, rfl, ⟨_, rfl, .refl _⟩, rfl, ⟨_, rfl, .refl _⟩, rfl, ⟨_, rfl, .refl _⟩, rfl, ⟨_, rfl, .refl _⟩, rfl, trivial⟩ ⟨⟨rfl, rfl, _, rfl, .refl _⟩, ⟨rfl, rfl, _, rfl, .refl _⟩, ⟨rfl, rfl, _, rfl, .refl _⟩, ⟨rfl, rfl, _, rfl, .refl _⟩, ⟨rfl, rfl, _, rfl, .refl _⟩, trivial⟩
        · have hs := diff_no (a := p1) (c := q1) (k := i) (by rw [hf0, hg0]; simp at hu; rw [hu])
          refine wc_skip ?_
          refine blk_n ?_
          refine seq_n ?_
          refine wc_region ?_
          refine reg_quiet rfl (step_C tab_ok (fun K hk => hk)) ?_
          refine reg_quiet rfl (add_int tab_ok rfl rfl (wrap_i64 (by omega) (by omega))) ?_
          refine reg_quiet rfl (step_C tab_ok (fun K hk => hk)) ?_
          refine reg_nil ?_
          refine loop_n (i + 1) [(64, some 64), (65, some 65), (67, some 67), (68, some 68), (70, some 70)] (show i + 1 ≤ N from hlt) (show N - (i + 1) < N - i by omega) ?_
          exact .of rfl rfl rfl rfl rfl ⟨⟨_, rfl, .refl _⟩, rfl, ⟨_, rfl, .of_eq (by rw [hs]; rfl)⟩, rfl, ⟨_, rfl, .refl _⟩, rfl, ⟨_, rfl, .refl _⟩, rfl, ⟨_, rfl, .refl _⟩, rfl, ⟨_, rfl, .refl _⟩, rfl, trivial⟩ ⟨⟨rfl, rfl, _, rfl, .refl _⟩, ⟨rfl, rfl, _, rfl, .refl _⟩, ⟨rfl, rfl, _, rfl, .refl _⟩, ⟨rfl, rfl, _, rfl, .refl _⟩, ⟨rfl, rfl, _, rfl, .refl _⟩, trivial⟩
      · obtain rfl : i = N := by have := of_decide_eq_false h3; omega
        have e1 : decide (((diffK p1 q1 i).length : Int) = ((diffK p1 q1 p1.length).length : Int)) = true := by rw [← lp1]; simp
        have e2 : decide (((diffK p1 q1 p1.length).length : Int) = ((diffK p1 q1 p1.length).length : Int)) = true := by simp
        refine wc_exit ?_
        refine seq_x ?_
        refine loop_x ?_
        refine blk_x ?_
        refine seq_n ?_
        refine wc_seq ?_
        refine wc_region ?_
        refine reg_quiet rfl (step_C tab_ok (fun K hk => hk)) ?_
        refine reg_quiet rfl (step_C tab_ok (fun K hk => hk)) ?_
        refine reg_quiet rfl (step_C tab_ok (fun K hk => hk)) ?_
        refine reg_on rfl rfl rfl ?_
        refine reg_quiet rfl (step_C tab_ok (fun K hk => hk)) ?_
        refine reg_on rfl rfl rfl ?_
        refine reg_quiet rfl (step_C tab_ok (fun K hk => hk)) ?_
        refine reg_on rfl rfl rfl ?_
        refine reg_quiet rfl (len_own tab_ok rfl rfl) ?_
        refine reg_on rfl rfl rfl ?_
        refine reg_quiet rfl (step_C tab_ok (fun K hk => hk)) ?_
        refine reg_quiet rfl (pick_T tab_ok rfl rfl rfl) ?_
        refine reg_quiet rfl (step_C tab_ok (fun K hk => hk)) ?_
        refine reg_on rfl rfl (by assumption) ?_
        refine reg_quiet rfl (step_C tab_ok (fun K hk => hk)) ?_
        refine reg_on rfl rfl (by assumption) ?_
        refine reg_quiet rfl (cap_own tab_ok rfl rfl) ?_
        refine reg_on rfl rfl (by assumption) ?_
        refine reg_quiet rfl (step_C tab_ok (fun K hk => hk)) ?_
        refine reg_on rfl rfl (by assumption) ?_
        refine reg_quiet rfl (len_own tab_ok rfl rfl) ?_
        refine reg_on rfl rfl (by assumption) ?_
        refine reg_quiet rfl (step_C tab_ok (fun K hk => hk)) ?_
        refine reg_quiet rfl (pick_T tab_ok rfl (by assumption) rfl) ?_
        refine reg_quiet rfl (step_C tab_ok (fun K hk => hk)) ?_
        refine reg_on rfl rfl (by assumption) ?_
        refine reg_quiet rfl (call_r lives_is rfl rfl arg_nil (.inl rfl) (fun _ => rfl)) ?_
        refine reg_quiet rfl (pick_T tab_ok rfl (by assumption) rfl) ?_
        refine reg_quiet rfl (step_C tab_ok (fun K hk => hk)) ?_
        refine reg_nil ?_
        refine seq_n ?_
        refine wc_ret ?_
        exact ⟨trivial, [], .of rfl rfl rfl rfl rfl ⟨⟨_, rfl, AVLe.of_eq rfl⟩, rfl, trivial⟩ trivial⟩
  · have hDe := differ_len p1 p2 q1 q2 o1 o2 (decide_eq_false (by omega))
    have d1 : (!decide ((N : Int) = (M : Int))) = true := by rw [decide_eq_false (by omega)]; rfl
    cases h1 : decide (p1 = q1) with
    | true =>
      rw [h1, Bool.true_and] at hv
      rw [← hv] at f1 f2
      refine fnIs_of tab_ok Try.func6 rfl rfl rfl ?_
      refine wc_seq ?_
      refine wc_region ?_
      refine reg_new (step_C tab_ok (fun K hk => hk)) rfl ?_
      refine reg_new (step_C tab_ok (fun K hk => hk)) rfl ?_
      refine reg_quiet rfl (step_C tab_ok (fun K hk => hk)) ?_
      refine reg_nil ?_
      refine seq_n ?_
      refine wc_seq ?_
      refine wc_draw (by kernel_rfl) ?_
      refine dreg_q [2] [64] rfl (load_box tab_ok rfl rfl rfl rfl) ?_
      refine dreg_w2 [14] [] rfl (call_new hR1 rfl rfl (arg_e arg_nil) (.inl rfl) rfl rfl) ?_
      refine dreg_q [3] [72] rfl (load_box tab_ok rfl rfl rfl rfl) ?_
      refine dreg_w2 [16] [] rfl (call_new hR2 rfl rfl (arg_e arg_nil) (.inl rfl) rfl rfl) ?_
      refine dreg_w [] [] rfl (step_C tab_ok (fun K hk => hk)) ?_
      refine dreg_w [] [] rfl (step_C tab_ok (fun K hk => hk)) ?_
      refine dreg_s [5, 15] [120, 96, 97] (store_row tab_ok rfl rfl rfl ⟨_, ⟨rfl, rfl, rfl⟩, rfl⟩ rfl) ?_
      refine dreg_s [6, 17] [128, 112, 113] (store_row tab_ok rfl rfl rfl ⟨_, ⟨rfl, rfl, rfl⟩, rfl⟩ rfl) ?_
      refine dreg_end (by kernel_rfl) ?_
      refine seq_n ?_
      refine wc_seq ?_
      refine wc_draw (by kernel_rfl) ?_
      refine dreg_q [5] [120, 96, 97] rfl (load_box tab_ok rfl rfl rfl rfl) ?_
      refine dreg_w2 [18] [96, 97] rfl (call_new hY1 rfl rfl (arg_A rfl rfl lp1 lp2 arg_nil) (.inr (own_plain _ _ _ _ _ _ _ _)) rfl rfl) ?_
      refine dreg_q [6] [128, 112, 113] rfl (load_box tab_ok rfl rfl rfl rfl) ?_
      refine dreg_w2 [20] [112, 113] rfl (call_new hY2 rfl rfl (arg_A rfl rfl lq1 lq2 arg_nil) (.inr (own_plain _ _ _ _ _ _ _ _)) rfl rfl) ?_
      refine dreg_w [] [] rfl (step_C tab_ok (fun K hk => hk)) ?_
      refine dreg_w [] [] rfl (step_C tab_ok (fun K hk => hk)) ?_
      refine dreg_s [7, 19] [184, 160, 161] (store_row tab_ok rfl rfl rfl ⟨_, ⟨rfl, rfl, rfl⟩, rfl⟩ rfl) ?_
      refine dreg_s [8, 21] [192, 176, 177] (store_row tab_ok rfl rfl rfl ⟨_, ⟨rfl, rfl, rfl⟩, rfl⟩ rfl) ?_
      refine dreg_end (by kernel_rfl) ?_
      refine seq_n ?_
      refine wc_seq ?_
      refine wc_region ?_
      refine reg_quiet rfl (step_C tab_ok (fun K hk => hk)) ?_
      refine reg_quiet rfl (load_box tab_ok rfl rfl rfl rfl) ?_
      refine reg_quiet rfl (step_C tab_ok (fun K hk => hk)) ?_
      refine reg_quiet rfl (load_box tab_ok rfl rfl rfl rfl) ?_
      refine reg_quiet rfl (call_r (refsame_is p1 q1 sp1 sq1) rfl rfl (arg_ownL rfl lp1 (arg_ownL rfl lq1 arg_nil)) (.inr (bool_plain _)) (fun _ => rfl)) ?_
      refine reg_quiet rfl (step_C tab_ok (fun K hk => hk)) ?_
      refine reg_on rfl rfl (by assumption) ?_
      refine reg_quiet rfl (step_C tab_ok (fun K hk => hk)) ?_
      refine reg_on rfl rfl (by assumption) ?_
      refine reg_quiet rfl (load_box tab_ok rfl rfl rfl rfl) ?_
      refine reg_on rfl rfl (by assumption) ?_
      refine reg_quiet rfl (step_C tab_ok (fun K hk => hk)) ?_
      refine reg_on rfl rfl (by assumption) ?_
      refine reg_quiet rfl (load_box tab_ok rfl rfl rfl rfl) ?_
      refine reg_on rfl rfl (by assumption) ?_
      refine reg_quiet rfl (call_r (refsame_is p2 q2 sp2 sq2) rfl rfl (arg_ownL rfl lp2 (arg_ownL rfl lq2 arg_nil)) (.inr (bool_plain _)) (fun _ => rfl)) ?_
      refine reg_quiet rfl (pick_T tab_ok rfl (by assumption) rfl) ?_
      refine reg_quiet rfl (step_C tab_ok (fun K hk => hk)) ?_
      refine reg_nil ?_
      refine seq_n ?_
      refine wc_seq ?_
      refine wc_region ?_
      refine reg_quiet rfl (load_box tab_ok rfl rfl rfl rfl) ?_
      refine reg_quiet rfl (load_box tab_ok rfl rfl rfl rfl) ?_
      refine reg_quiet rfl (call_r hDe rfl rfl (arg_A rfl rfl lp1 lp2 (arg_A rfl rfl lq1 lq2 arg_nil)) (.inr (errL_plain _)) (fun _ => rfl)) ?_
      refine reg_quiet rfl (step_C tab_ok (fun K hk => hk)) ?_
      refine reg_quiet rfl (step_C tab_ok (fun K hk => hk)) ?_
      refine reg_quiet rfl (step_C tab_ok (fun K hk => hk)) ?_
      refine reg_quiet rfl (step_C tab_ok (fun K hk => hk)) ?_
      refine reg_quiet rfl (step_C tab_ok (fun K hk => hk)) ?_
      refine reg_nil ?_
      refine seq_n ?_
      refine wc_seq ?_
      refine wc_seq ?_
      refine wc_region ?_
      refine reg_quiet rfl (load_box tab_ok rfl rfl rfl rfl) ?_
      refine reg_quiet rfl (load_box tab_ok rfl rfl rfl rfl) ?_
      refine reg_quiet rfl (call_r (same_is p1 p2 q1 q2 sp1 sp2 sq1 sq2) rfl rfl (arg_A rfl rfl lp1 lp2 (arg_A rfl rfl lq1 lq2 arg_nil)) (.inr (bool_plain _)) (fun _ => rfl)) ?_
      refine reg_quiet rfl (step_C tab_ok (fun K hk => hk)) ?_
      refine reg_quiet rfl (step_C tab_ok (fun K hk => hk)) ?_
      refine reg_quiet rfl (step_C tab_ok (fun K hk => hk)) ?_
      refine reg_on rfl rfl (by assumption) ?_
      refine reg_quiet rfl (load_box tab_ok rfl rfl rfl rfl) ?_
      refine reg_on rfl rfl (by assumption) ?_
      refine reg_quiet rfl (load_box tab_ok rfl rfl rfl rfl) ?_
      refine reg_on rfl rfl (by assumption) ?_
      refine reg_quiet rfl (call_r (same_is q1 q2 p1 p2 sq1 sq2 sp1 sp2) rfl rfl (arg_A rfl rfl lq1 lq2 (arg_A rfl rfl lp1 lp2 arg_nil)) (.inr (bool_plain _)) (fun _ => rfl)) ?_
      refine reg_on rfl rfl (by assumption) ?_
      refine reg_quiet rfl (step_C tab_ok (fun K hk => hk)) ?_
      refine reg_on rfl rfl (by assumption) ?_
      refine reg_quiet rfl (step_C tab_ok (fun K hk => hk)) ?_
      refine reg_quiet rfl (pick_F tab_ok rfl (by assumption) rfl) ?_
      refine reg_quiet rfl (step_C tab_ok (fun K hk => hk)) ?_
      refine reg_on rfl rfl (by assumption) ?_
      refine reg_quiet rfl (load_box tab_ok rfl rfl rfl rfl) ?_
      refine reg_on rfl rfl (by assumption) ?_
      refine reg_quiet rfl (load_box tab_ok rfl rfl rfl rfl) ?_
      refine reg_on rfl rfl (by assumption) ?_
      refine reg_quiet rfl (call_r (same_is p1 p2 p1 p2 sp1 sp2 sp1 sp2) rfl rfl (arg_A rfl rfl lp1 lp2 (arg_A rfl rfl lp1 lp2 arg_nil)) (.inr (bool_plain _)) (fun _ => rfl)) ?_
      refine reg_on rfl rfl (by assumption) ?_
      refine reg_quiet rfl (step_C tab_ok (fun K hk => hk)) ?_
      refine reg_quiet rfl (pick_F tab_ok rfl (by assumption) rfl) ?_
      refine reg_nil ?_
      refine seq_n ?_
      refine wc_false rfl (by assumption) ?_
      refine wc_skip ?_
      refine seq_n ?_
      refine wc_seq ?_
      refine wc_seq ?_
      refine wc_region ?_
      refine reg_quiet rfl (step_C tab_ok (fun K hk => hk)) ?_
      refine reg_quiet rfl (load_box tab_ok rfl rfl rfl rfl) ?_
      refine reg_quiet rfl (len_own tab_ok rfl rfl) ?_
      refine reg_quiet rfl (step_C tab_ok (fun K hk => hk)) ?_
      refine reg_quiet rfl (load_box tab_ok rfl rfl rfl rfl) ?_
      refine reg_quiet rfl (len_own tab_ok rfl rfl) ?_
      refine reg_quiet rfl (step_C tab_ok (fun K hk => hk)) ?_
      refine reg_nil ?_
      refine seq_n ?_
      refine wc_true rfl (by assumption) ?_
      refine wc_seq ?_
      refine wc_region ?_
      refine reg_quiet rfl (step_C tab_ok (fun K hk => hk)) ?_
      refine reg_quiet rfl (step_C tab_ok (fun K hk => hk)) ?_
      refine reg_quiet rfl (step_C tab_ok (fun K hk => hk)) ?_
      refine reg_on rfl rfl rfl ?_
      refine reg_quiet rfl (step_C tab_ok (fun K hk => hk)) ?_
      refine reg_on rfl rfl rfl ?_
      refine reg_quiet rfl (len_nil tab_ok rfl rfl) ?_
      refine reg_on rfl rfl rfl ?_
      refine reg_quiet rfl (step_C tab_ok (fun K hk => hk)) ?_
      refine reg_quiet rfl (pick_T tab_ok rfl rfl rfl) ?_
      refine reg_quiet rfl (step_C tab_ok (fun K hk => hk)) ?_
      refine reg_on rfl rfl rfl ?_
      refine reg_quiet rfl (call_r lives_is rfl rfl arg_nil (.inl rfl) (fun _ => rfl)) ?_
      refine reg_quiet rfl (pick_T tab_ok rfl rfl rfl) ?_
      refine reg_quiet rfl (step_C tab_ok (fun K hk => hk)) ?_
      refine reg_nil ?_
      refine seq_n ?_
      refine wc_ret ?_
      refine seq_r ?_
      exact ⟨trivial, [], .of rfl rfl rfl rfl rfl ⟨⟨_, rfl, AVLe.of_eq rfl⟩, rfl, trivial⟩ trivial⟩
    | false =>
      rw [h1, Bool.false_and] at hv
      rw [← hv] at f1 f2
      refine fnIs_of tab_ok Try.func6 rfl rfl rfl ?_
      refine wc_seq ?_
      refine wc_region ?_
      refine reg_new (step_C tab_ok (fun K hk => hk)) rfl ?_
      refine reg_new (step_C tab_ok (fun K hk => hk)) rfl ?_
      refine reg_quiet rfl (step_C tab_ok (fun K hk => hk)) ?_
      refine reg_nil ?_
      refine seq_n ?_
      refine wc_seq ?_
      refine wc_draw (by kernel_rfl) ?_
      refine dreg_q [2] [64] rfl (load_box tab_ok rfl rfl rfl rfl) ?_
      refine dreg_w2 [14] [] rfl (call_new hR1 rfl rfl (arg_e arg_nil) (.inl rfl) rfl rfl) ?_
      refine dreg_q [3] [72] rfl (load_box tab_ok rfl rfl rfl rfl) ?_
      refine dreg_w2 [16] [] rfl (call_new hR2 rfl rfl (arg_e arg_nil) (.inl rfl) rfl rfl) ?_
      refine dreg_w [] [] rfl (step_C tab_ok (fun K hk => hk)) ?_
      refine dreg_w [] [] rfl (step_C tab_ok (fun K hk => hk)) ?_
      refine dreg_s [5, 15] [120, 96, 97] (store_row tab_ok rfl rfl rfl ⟨_, ⟨rfl, rfl, rfl⟩, rfl⟩ rfl) ?_
      refine dreg_s [6, 17] [128, 112, 113] (store_row tab_ok rfl rfl rfl ⟨_, ⟨rfl, rfl, rfl⟩, rfl⟩ rfl) ?_
      refine dreg_end (by kernel_rfl) ?_
      refine seq_n ?_
      refine wc_seq ?_
      refine wc_draw (by kernel_rfl) ?_
      refine dreg_q [5] [120, 96, 97] rfl (load_box tab_ok rfl rfl rfl rfl) ?_
      refine dreg_w2 [18] [96, 97] rfl (call_new hY1 rfl rfl (arg_A rfl rfl lp1 lp2 arg_nil) (.inr (own_plain _ _ _ _ _ _ _ _)) rfl rfl) ?_
      refine dreg_q [6] [128, 112, 113] rfl (load_box tab_ok rfl rfl rfl rfl) ?_
      refine dreg_w2 [20] [112, 113] rfl (call_new hY2 rfl rfl (arg_A rfl rfl lq1 lq2 arg_nil) (.inr (own_plain _ _ _ _ _ _ _ _)) rfl rfl) ?_
      refine dreg_w [] [] rfl (step_C tab_ok (fun K hk => hk)) ?_
      refine dreg_w [] [] rfl (step_C tab_ok (fun K hk => hk)) ?_
      refine dreg_s [7, 19] [184, 160, 161] (store_row tab_ok rfl rfl rfl ⟨_, ⟨rfl, rfl, rfl⟩, rfl⟩ rfl) ?_
      refine dreg_s [8, 21] [192, 176, 177] (store_row tab_ok rfl rfl rfl ⟨_, ⟨rfl, rfl, rfl⟩, rfl⟩ rfl) ?_
      refine dreg_end (by kernel_rfl) ?_
      refine seq_n ?_
      refine wc_seq ?_
      refine wc_region ?_
      refine reg_quiet rfl (step_C tab_ok (fun K hk => hk)) ?_
      refine reg_quiet rfl (load_box tab_ok rfl rfl rfl rfl) ?_
      refine reg_quiet rfl (step_C tab_ok (fun K hk => hk)) ?_
      refine reg_quiet rfl (load_box tab_ok rfl rfl rfl rfl) ?_
      refine reg_quiet rfl (call_r (refsame_is p1 q1 sp1 sq1) rfl rfl (arg_ownL rfl lp1 (arg_ownL rfl lq1 arg_nil)) (.inr (bool_plain _)) (fun _ => rfl)) ?_
      refine reg_quiet rfl (step_C tab_ok (fun K hk => hk)) ?_
      refine reg_skip rfl rfl (by assumption) rfl rfl ?_
      refine reg_skip rfl rfl (by assumption) rfl rfl ?_
      refine reg_skip rfl rfl (by assumption) rfl rfl ?_
      refine reg_skip rfl rfl (by assumption) rfl rfl ?_
      refine reg_skip rfl rfl (by assumption) rfl rfl ?_
      refine reg_quiet rfl (pick_F tab_ok rfl (by assumption) rfl) ?_
      refine reg_quiet rfl (step_C tab_ok (fun K hk => hk)) ?_
      refine reg_nil ?_
      refine seq_n ?_
      refine wc_seq ?_
      refine wc_region ?_
      refine reg_quiet rfl (load_box tab_ok rfl rfl rfl rfl) ?_
      refine reg_quiet rfl (load_box tab_ok rfl rfl rfl rfl) ?_
      refine reg_quiet rfl (call_r hDe rfl rfl (arg_A rfl rfl lp1 lp2 (arg_A rfl rfl lq1 lq2 arg_nil)) (.inr (errL_plain _)) (fun _ => rfl)) ?_
      refine reg_quiet rfl (step_C tab_ok (fun K hk => hk)) ?_
      refine reg_quiet rfl (step_C tab_ok (fun K hk => hk)) ?_
      refine reg_quiet rfl (step_C tab_ok (fun K hk => hk)) ?_
      refine reg_quiet rfl (step_C tab_ok (fun K hk => hk)) ?_
      refine reg_quiet rfl (step_C tab_ok (fun K hk => hk)) ?_
      refine reg_nil ?_
      refine seq_n ?_
      refine wc_seq ?_
      refine wc_seq ?_
      refine wc_region ?_
      refine reg_quiet rfl (load_box tab_ok rfl rfl rfl rfl) ?_
      refine reg_quiet rfl (load_box tab_ok rfl rfl rfl rfl) ?_
      refine reg_quiet rfl (call_r (same_is p1 p2 q1 q2 sp1 sp2 sq1 sq2) rfl rfl (arg_A rfl rfl lp1 lp2 (arg_A rfl rfl lq1 lq2 arg_nil)) (.inr (bool_plain _)) (fun _ => rfl)) ?_
      refine reg_quiet rfl (step_C tab_ok (fun K hk => hk)) ?_
      refine reg_quiet rfl (step_C tab_ok (fun K hk => hk)) ?_
      refine reg_quiet rfl (step_C tab_ok (fun K hk => hk)) ?_
      refine reg_on rfl rfl (by assumption) ?_
      refine reg_quiet rfl (load_box tab_ok rfl rfl rfl rfl) ?_
      refine reg_on rfl rfl (by assumption) ?_
      refine reg_quiet rfl (load_box tab_ok rfl rfl rfl rfl) ?_
      refine reg_on rfl rfl (by assumption) ?_
      refine reg_quiet rfl (call_r (same_is q1 q2 p1 p2 sq1 sq2 sp1 sp2) rfl rfl (arg_A rfl rfl lq1 lq2 (arg_A rfl rfl lp1 lp2 arg_nil)) (.inr (bool_plain _)) (fun _ => rfl)) ?_
      refine reg_on rfl rfl (by assumption) ?_
      refine reg_quiet rfl (step_C tab_ok (fun K hk => hk)) ?_
      refine reg_on rfl rfl (by assumption) ?_
      refine reg_quiet rfl (step_C tab_ok (fun K hk => hk)) ?_
      refine reg_quiet rfl (pick_F tab_ok rfl (by assumption) rfl) ?_
      refine reg_quiet rfl (step_C tab_ok (fun K hk => hk)) ?_
      refine reg_on rfl rfl (by assumption) ?_
      refine reg_quiet rfl (load_box tab_ok rfl rfl rfl rfl) ?_
      refine reg_on rfl rfl (by assumption) ?_
      refine reg_quiet rfl (load_box tab_ok rfl rfl rfl rfl) ?_
      refine reg_on rfl rfl (by assumption) ?_
      refine reg_quiet rfl (call_r (same_is p1 p2 p1 p2 sp1 sp2 sp1 sp2) rfl rfl (arg_A rfl rfl lp1 lp2 (arg_A rfl rfl lp1 lp2 arg_nil)) (.inr (bool_plain _)) (fun _ => rfl)) ?_
      refine reg_on rfl rfl (by assumption) ?_
      refine reg_quiet rfl (step_C tab_ok (fun K hk => hk)) ?_
      refine reg_quiet rfl (pick_F tab_ok rfl (by assumption) rfl) ?_
      refine reg_nil ?_
      refine seq_n ?_
      refine wc_false rfl (by assumption) ?_
      refine wc_skip ?_
      refine seq_n ?_
      refine wc_seq ?_
      refine wc_seq ?_
      refine wc_region ?_
      refine reg_quiet rfl (step_C tab_ok (fun K hk => hk)) ?_
      refine reg_quiet rfl (load_box tab_ok rfl rfl rfl rfl) ?_
      refine reg_quiet rfl (len_own tab_ok rfl rfl) ?_
      refine reg_quiet rfl (step_C tab_ok (fun K hk => hk)) ?_
      refine reg_quiet rfl (load_box tab_ok rfl rfl rfl rfl) ?_
      refine reg_quiet rfl (len_own tab_ok rfl rfl) ?_
      refine reg_quiet rfl (step_C tab_ok (fun K hk => hk)) ?_
      refine reg_nil ?_
      refine seq_n ?_
      refine wc_true rfl (by assumption) ?_
      refine wc_seq ?_
      refine wc_region ?_
      refine reg_quiet rfl (step_C tab_ok (fun K hk => hk)) ?_
      refine reg_quiet rfl (step_C tab_ok (fun K hk => hk)) ?_
      refine reg_quiet rfl (step_C tab_ok (fun K hk => hk)) ?_
      refine reg_on rfl rfl rfl ?_
      refine reg_quiet rfl (step_C tab_ok (fun K hk => hk)) ?_
      refine reg_on rfl rfl rfl ?_
      refine reg_quiet rfl (len_nil tab_ok rfl rfl) ?_
      refine reg_on rfl rfl rfl ?_
      refine reg_quiet rfl (step_C tab_ok (fun K hk => hk)) ?_
      refine reg_quiet rfl (pick_T tab_ok rfl rfl rfl) ?_
      refine reg_quiet rfl (step_C tab_ok (fun K hk => hk)) ?_
      refine reg_on rfl rfl rfl ?_
      refine reg_quiet rfl (call_r lives_is rfl rfl arg_nil (.inl rfl) (fun _ => rfl)) ?_
      refine reg_quiet rfl (pick_T tab_ok rfl rfl rfl) ?_
      refine reg_quiet rfl (step_C tab_ok (fun K hk => hk)) ?_
      refine reg_nil ?_
      refine seq_n ?_
      refine wc_ret ?_
      refine seq_r ?_
      exact ⟨trivial, [], .of rfl rfl rfl rfl rfl ⟨⟨_, rfl, AVLe.of_eq rfl⟩, rfl, trivial⟩ trivial⟩
theorem arraysDiffer_is (bl bl2 : Int) (zs zs2 : List (List Int)) (hb : 0 ≤ bl ∧ bl ≤ 255) (hb2 : 0 ≤ bl2 ∧ bl2 ≤ 255) (h3 : Three zs) (h4 : Three zs2) : FnIs Try.prog 6 [.d (encO bl zs), .d (encO bl2 zs2)] [] (.bool true) [] := by
  have k1 := nOf_bound hb
  have k2 := nOf_bound hb2
  have r1 := ref_is bl zs hb h3 (nOf bl).toNat (by omega)
  have r2 := ref_is bl2 zs2 hb2 h4 (nOf bl2).toNat (by omega)
  exact differLaw_core _ _ _ _ _ _ _ _ r1 r2 (runF_good (zeros_good _) _ _) (runF_good (zeros_good _) _ _) (by omega) (by omega) (by omega) (by omega) ⟨bl, zs, rfl⟩ ⟨bl2, zs2, rfl⟩
end Go.Proofs.Ytjpjchohpjbknaa

/- ArraysDiffer: the walked law is the statement. -/
namespace Go.Proofs.Ytjpjchohpjbknaa
open Go.ChangeShapes Go.WideShapes Go.ChangeAt Go.RowKit Go.Eng
theorem own : ownKnob Try.prog.godebug = none := by kernel_rfl
theorem laidOut : laidOutB Try.prog = true := by kernel_rfl
set_option maxRecDepth 100000 in
theorem lifted (os : Os) (started : os.Started) (H : Type) (enc : TypeId × Value → H) :
    ReturnsInHanded {} Try.checked os 6 .any (Rows.arraysDifferSpec.pre6 enc Try.prog Try.f6 Rows.arraysDifferRow.domain false) (Rows.arraysDifferSpec.post enc Try.prog Try.f6 false true false false) := by
  refine returnsInHanded_of_change (C := Try.checked) own started (by kernel_rfl) Try.func6
    (ChangeSpec.witness6 (enc := enc) (C := Try.checked) false ⟨#[], #[(.agg #[.int .u8 0, .slice none 0 0]), (.agg #[.int .u8 0, .slice none 0 0])], []⟩ 8 (by kernel_rfl) (by kernel_rfl) (by kernel_rfl) (by kernel_rfl)) ?_
  intro W base args ds gs before hval0 hW hcnd _
  have hval : ∀ (j : Nat) t v, Try.f6.params[j]? = some t → args[j]? = some v → Value.okWide Try.prog W .any base t v := hval0
  have hW' := hW
  obtain ⟨p, q, hA0, hV, rfl, hfz, hnd⟩ := hW
  have hA : DataW.TrodAll enc Try.prog W 0 (fun _ => true) true Try.f6.params.toList args.toList ds p := hA0
  rw [Try.params6] at hA hval
  obtain ⟨v0, vs0, d0, ds0, p0, q0, hargs, rfl, rfl, h0, r0⟩ := trodAll_cons hA
  obtain ⟨v1, vs1, d1, ds1, p1, q1, rfl, rfl, rfl, h1, r1⟩ := trodAll_cons r0
  obtain ⟨rfl, rfl, rfl⟩ := trodAll_nil r1
  obtain rfl : args = #[v0, v1] := Array.ext' (by simpa using hargs)
  obtain ⟨rfl, rfl⟩ := trodVars_none hV
  have k0 := h0
  have lt0 : ∀ x ∈ p0, x.block < W.heap.size := by obtain ⟨m, hm⟩ := k0; exact DataW.trod_lt m _ _ _ hm
  obtain ⟨fuel0, hfu0⟩ := h0
  obtain ⟨x0, e0, _, w0⟩ := opens_X H enc W _ _ fuel0 _ _ hfu0
  obtain ⟨cs0, hcs0, _⟩ := okWide_struct Try.underlying24 (hval 0 24 v0 rfl rfl)
  have rel0 : RelV (fun _ => none) W (fun _ => False) (.d (encX x0)) v0 := e0.relV ⟨fun _ => rfl, fun _ => ⟨cs0, hcs0⟩⟩
  have k1 := h1
  have lt1 : ∀ x ∈ p1, x.block < W.heap.size := by obtain ⟨m, hm⟩ := k1; exact DataW.trod_lt m _ _ _ hm
  obtain ⟨fuel1, hfu1⟩ := h1
  obtain ⟨x1, e1, _, w1⟩ := opens_X H enc W _ _ fuel1 _ _ hfu1
  obtain ⟨cs1, hcs1, _⟩ := okWide_struct Try.underlying24 (hval 1 24 v1 rfl rfl)
  have rel1 : RelV (fun _ => none) W (fun _ => False) (.d (encX x1)) v1 := e1.relV ⟨fun _ => rfl, fun _ => ⟨cs1, hcs1⟩⟩
  clear hA0 hval0
  refine (law_calls (arraysDiffer_is x0.1 x1.1 x0.2 x1.2 (u8_of w0.1) (u8_of w1.1) (three_of w0.2) (three_of w1.2)) (W := W) (args := #[v0, v1]) ⟨v0, [v1], rfl, ⟨rel0, trivial⟩, ⟨v1, [], rfl, ⟨rel1, trivial⟩, rfl⟩⟩).mono fun e W' ⟨he, bel⟩ => ?_
  subst he
  exact ⟨_, rfl, _, _, _, [], _, [], hW', trodAll_mk1 (shut_bool Try.underlying4 _), (trodAll_cons_mk (Below.trod laidOut (by kernel_rfl) (of_decide_eq_true (by kernel_rfl)) k0 bel lt0) (trodAll_cons_mk (Below.trod laidOut (by kernel_rfl) (of_decide_eq_true (by kernel_rfl)) k1 bel lt1) trodAll_mk0)), rfl, bel.frame _, fun h => by cases h⟩

theorem over : Rows.arraysDifferRow.holds Try.pinned (OpenSpec.ofChange Rows.arraysDifferSpec) :=
  OpenClaim.holds_of_wide 6 Try.f6 rfl rfl rfl rfl rfl rfl rfl ⟨rfl, rfl, rfl, rfl, rfl⟩ rfl rfl rfl rfl rfl (by kernel_rfl) Try.func6 (by kernel_rfl)
    (of_decide_eq_true (by kernel_rfl)) (by unfold Func.isWrapper; first | (rw [if_pos (by decide +kernel)]; kernel_rfl) | (rw [if_neg (by decide +kernel)]; exact ⟨rfl, rfl⟩))
    (fun os started H enc _ => lifted os started H enc)
theorem arraysDiffer_holds : Rows.ArraysDifferSaid := over
end Go.Proofs.Ytjpjchohpjbknaa
