/- The examples of the chapter hold, 256 operations are carried out and 257 are not, and the greatest array has 4096 blocks. No condition. -/
import Derived.Test.YtjpjchohpjbknaaAB
import Derived.Test.YtjpjchohpjbknaaEngD
import Derived.Test.YtjpjchohpjbknaaRows
import Derived.Test.YtjpjchohpjbknaaEngB

set_option linter.unusedVariables false
set_option linter.unusedSimpArgs false

/- ArraysKnown: 256 operations, and one more; the greatest array. -/
namespace Go.Proofs.Ytjpjchohpjbknaa
open Go.Eng
set_option maxHeartbeats 4000000
set_option maxRecDepth 4000
attribute [local irreducible] WC RegS RegD SeqQ BlkQ ScoQ RegK CutK Sat SatN FnIs LoopQ StepIs OpIs
abbrev opI (i : Nat) : Oper := ⟨2, 16 * ((i : Int).tmod 256), (plainB (IntKind.u8.wrap (i : Int))).take 32⟩
def opsI (n : Nat) : List Oper := (List.range n).map opI
theorem opsI_len (n : Nat) : (opsI n).length = n := by simp [opsI]
theorem opsI_succ (n : Nat) : opsI (n + 1) = opsI n ++ [opI n] := by simp [opsI, List.range_succ]
/-- The head of an owned slice. -/
theorem arg_head {look : Nat → Option Row} {ρ : Nat → Option Nat} {α : Type} {s r len : Nat} {te : TypeId} {ex : Bool} {cap : Option Nat} {enc : α → D} {xs ys : List α} {bs avs : List AV} (hr : look r = some (.ds te s ex enc xs)) (hl : len ≤ xs.length) (hy : xs.take len = ys) (h : ArgsA look ρ bs avs) :
    ArgsA look ρ (.own r 0 len s cap :: bs) (.d (.arr s enc ys) :: avs) :=
  ⟨_, avs, rfl, ⟨rfl, rfl⟩, ⟨rfl, by simp only [ArgD, hr]; exact ⟨trivial, by omega, ys, by rw [List.drop_zero]; exact hy, DLe.refl _⟩⟩, h⟩
theorem play_plain (n m k c3 : Nat) (c c2 : Option Nat) (e : Int) (a b : Blks) (e1 e2 e3 : Bool) (rs : List Res) : PlainRes (tup3 (ownA 64 n c 65 m c2) (.own 66 0 k c3 none) (.int .i64 e)) [(64, rowB e1 a), (65, rowB e2 b), (66, .ds 49 33 e3 encRes rs)] := .of ⟨⟨trivial, trivial, trivial⟩, trivial, trivial, trivial⟩ (plain_rows_cons (fun _ => block_plain _) (plain_rows_cons (fun _ => block_plain _) (plain_rows_cons (fun _ => ⟨block_plain _, trivial, trivial⟩) plain_rows_nil)))
theorem errP_plain : PlainRes (errP 3) [] := .of ⟨⟨trivial, trivial, trivial⟩, trivial, trivial, trivial⟩ plain_rows_nil
theorem known_core (z P1 P2 : Blks) (rs : List Res) (ops : List Oper) (lz : 4096 = z.length) (la : 4096 = P1.length) (lb : 4096 = P2.length) (hop : (opsI 257).take 256 = ops)
    (hN : FnIs Try.prog 15 [.d (i6 4096)] [] (okT 4096 none 4096 none) [(64, rowB true z), (65, rowB true z)])
    (hP : FnIs Try.prog 18 [.d (encA z z), .d (.arr 3 encOp ops)] [] (tup3 (ownA 64 4096 (some 4096) 65 4096 (some 4096)) (.own 66 0 256 33 none) (.int .i64 0)) [(64, rowB false P1), (65, rowB false P2), (66, .ds 49 33 true encRes rs)])
    (hM : FnIs Try.prog 18 [.d (encA z z), .d (.arr 3 encOp (opsI 257))] [] (errP 3) [])
    (hR : FnIs Try.prog 32 [.d (encA P1 P2), .d (i6 4080)] [] (tup2 (encBlock (plainB 255)) (i6 0)) [])
    (hB : FnIs Try.prog 15 [.d (i6 4097)] [] (errA 1) []) : FnIs Try.prog 7 [] [] (.bool true) [] := by
  have hl8 : (opsI 257).length = 257 := opsI_len 257
  have hl7 : 256 ≤ (opsI 257).length := by omega
  have f1 : decide (plainB 255 = plainB 255) = true := by simp
  refine fnIs_of tab_ok Try.func7 rfl rfl rfl ?_
  refine wc_seq ?_
  refine wc_region ?_
  refine reg_quiet rfl (step_C tab_ok (fun K hk => hk)) ?_
  refine reg_nil ?_
  refine seq_n ?_
  refine wc_seq ?_
  refine wc_region ?_
  refine reg_new2 (call_new hN rfl rfl (arg_e arg_nil) (.inl rfl) rfl rfl) rfl ?_
  refine reg_quiet rfl (step_C tab_ok (fun K hk => hk)) ?_
  refine reg_quiet rfl (step_C tab_ok (fun K hk => hk)) ?_
  refine reg_quiet rfl (step_C tab_ok (fun K hk => hk)) ?_
  refine reg_new (step_C tab_ok (fun K hk => hk)) rfl ?_
  refine reg_store (store_row tab_ok rfl rfl rfl ⟨_, ⟨rfl, rfl, rfl⟩, rfl⟩ rfl) ?_
  refine reg_quiet rfl (step_C tab_ok (fun K hk => hk)) ?_
  refine reg_nil ?_
  refine seq_n ?_
  refine wc_seq ?_
  refine wc_region ?_
  refine reg_quiet rfl (step_C tab_ok (fun K hk => hk)) ?_
  refine reg_nil ?_
  refine seq_n ?_
  refine wc_seq ?_
  refine wc_seq ?_
  refine wc_region ?_
  refine reg_quiet rfl (step_C tab_ok (fun K hk => hk)) ?_
  refine reg_nil ?_
  refine seq_n ?_
  refine wc_block ?_
  refine wc_inv (fun i : Nat => ⟨[(4, .int .i64 i), (3, .own 67 0 (opsI i).length 3 none), (1, .ptr 64 []), (2, .int .i64 0)], [(64, some (.box 30 (ownA 65 4096 none 66 4096 none))), (65, some (rowB true z)), (66, some (rowB true z)), (67, some (.ds 47 3 false encOp (opsI i)))], 72, Try.f7.ntmps, 64⟩) (fun i => i ≤ 257) (fun i => 257 - i) 0 [(64, some 104), (65, some 72), (66, some 73), (67, none)] (Nat.zero_le _)
    (.of rfl rfl rfl rfl rfl ⟨⟨_, rfl, .refl _⟩, rfl, ⟨_, rfl, .refl _⟩, rfl, ⟨_, rfl, .refl _⟩, rfl, ⟨_, rfl, .refl _⟩, rfl, trivial⟩ ⟨⟨rfl, rfl, _, rfl, .refl _⟩, ⟨rfl, rfl, _, rfl, .refl _⟩, ⟨rfl, rfl, _, rfl, .refl _⟩, ⟨rfl, rfl, rfl⟩, trivial⟩) ?_
  intro i hi
  have hs := opsI_succ i
  have hlen : (opsI i).length + 1 ≤ 1048576 := by rw [opsI_len]; omega
  have m0 : 0 ≤ (i : Int).tmod 256 := Int.tmod_nonneg _ (by omega)
  have m1 : (i : Int).tmod 256 < 256 := Int.tmod_lt_of_pos _ (by omega)
  refine wc_of ?_
  refine wc_seq ?_
  refine wc_seq ?_
  refine wc_region ?_
  refine reg_quiet rfl (step_C tab_ok (fun K hk => hk)) ?_
  refine reg_quiet rfl (step_C tab_ok (fun K hk => hk)) ?_
  refine reg_nil ?_
  refine seq_n ?_
  refine wc_cond rfl (fun h3 => ?_) (fun h3 => ?_)
  · have hlt : i < 257 := by have := of_decide_eq_true h3; omega
    have hle : (opsI i).length = i := opsI_len i
    refine wc_skip ?_
    refine seq_n ?_
    refine wc_seq ?_
    refine wc_block ?_
    refine wc_seq ?_
    refine wc_region ?_
    refine reg_quiet rfl (step_C tab_ok (fun K hk => hk)) ?_
    refine reg_quiet rfl (conv_int tab_ok rfl rfl rfl rfl) ?_
    refine reg_quiet rfl (call_r (plain_is (IntKind.u8.wrap (i : Int))) rfl rfl (arg_e arg_nil) (.inl rfl) (fun _ => rfl)) ?_
    refine reg_new (step_C tab_ok (fun K hk => hk)) rfl ?_
    refine reg_store (store_row tab_ok rfl rfl rfl ⟨_, ⟨rfl, rfl, rfl⟩, rfl⟩ rfl) ?_
    refine reg_nil ?_
    refine seq_n ?_
    refine wc_region ?_
    refine reg_quiet rfl (step_C tab_ok (fun K hk => hk)) ?_
    refine reg_quiet rfl (step_C tab_ok (fun K hk => hk)) ?_
    refine reg_quiet rfl (rem_int tab_ok rfl rfl (by omega)) ?_
    refine reg_quiet rfl (mul_int tab_ok rfl rfl (wrap_i64 (by omega) (by omega))) ?_
    refine reg_quiet rfl (slice_ptr tab_ok rfl rfl rfl) ?_
    refine reg_quiet rfl (build_struct tab_ok rfl rfl rfl rfl) ?_
    refine reg_freeze (env' := [(32, .d (encOp (opI i))), (27, .own 67 0 (opsI i).length 3 none), (4, .int .i64 i), (1, .ptr 64 []), (2, .int .i64 0)]) (h' := [(64, some (.box 30 (ownA 65 4096 none 66 4096 none))), (65, some (rowB true z)), (66, some (rowB true z)), (67, some (.ds 47 3 false encOp (opsI i)))]) 112 _ rfl ⟨⟨_, rfl, Frz.dcons (.refl _) (Frz.dcons (.refl _) (Frz.dcons (Frz.asl (cap := 32) (by decide) (by decide) (by decide)) (.refl _)))⟩, ⟨_, rfl, .refl _⟩, ⟨_, rfl, .refl _⟩, ⟨_, rfl, .refl _⟩, ⟨_, rfl, .refl _⟩, trivial⟩ ⟨⟨rfl, _, rfl, .refl _⟩, ⟨rfl, _, rfl, .refl _⟩, ⟨rfl, _, rfl, .refl _⟩, ⟨rfl, _, rfl, .refl _⟩, trivial⟩ ?_
    refine reg_new (build_slice tab_ok rfl rfl rfl rfl rfl rfl rfl rfl) rfl ?_
    refine reg_new2 (append_one (s := 3) (enc := encOp) tab_ok (opI i) rfl rfl rfl rfl rfl rfl rfl rfl rfl hlen rfl) rfl ?_
    refine reg_quiet rfl (step_C tab_ok (fun K hk => hk)) ?_
    refine reg_nil ?_
    refine blk_n ?_
    refine seq_n ?_
    refine wc_region ?_
    refine reg_quiet rfl (step_C tab_ok (fun K hk => hk)) ?_
    refine reg_quiet rfl (add_int tab_ok rfl rfl (wrap_i64 (by omega) (by omega))) ?_
    refine reg_quiet rfl (step_C tab_ok (fun K hk => hk)) ?_
    refine reg_nil ?_
    refine loop_n (i + 1) [(64, some 64), (65, some 65), (66, some 66), (67, some 184)] hlt (show 257 - (i + 1) < 257 - i by omega) ?_
    exact .of rfl rfl rfl rfl rfl ⟨⟨_, rfl, .refl _⟩, rfl, ⟨_, rfl, .of_eq (by rw [hs, List.length_append]; rfl)⟩, rfl, ⟨_, rfl, .refl _⟩, rfl, ⟨_, rfl, .refl _⟩, rfl, trivial⟩ ⟨⟨rfl, rfl, _, rfl, .refl _⟩, ⟨rfl, rfl, _, rfl, .refl _⟩, ⟨rfl, rfl, _, rfl, .refl _⟩, ⟨rfl, rfl, _, rfl, .of_eq (by rw [hs]; rfl)⟩, trivial⟩
  · obtain rfl : i = 257 := by have := of_decide_eq_false h3; omega
    refine wc_exit ?_
    refine seq_x ?_
    refine loop_x ?_
    refine blk_x ?_
    refine seq_n ?_
    refine wc_seq ?_
    refine wc_draw (by kernel_rfl) ?_
    refine dreg_q [1] [64, 65, 66] rfl (load_box tab_ok rfl rfl rfl rfl) ?_
    refine dreg_q [3] [67] rfl (step_C tab_ok (fun K hk => hk)) ?_
    refine dreg_q [37] [67] rfl (slice_own_to (m := 256) tab_ok rfl rfl rfl rfl hl7) ?_
    refine dreg_step rfl (call_new hP rfl rfl (arg_A rfl rfl lz lz (arg_head rfl hl7 hop arg_nil)) (.inr (play_plain _ _ _ _ _ _ _ _ _ _ _ _ _)) rfl rfl) rfl rfl ?_
    refine dreg_q [39] [112, 113, 114] rfl (step_C tab_ok (fun K hk => hk)) ?_
    refine dreg_q [35] [112, 113, 114] rfl (step_C tab_ok (fun K hk => hk)) ?_
    refine dreg_q [35] [112, 113, 114] rfl (step_C tab_ok (fun K hk => hk)) ?_
    refine dreg_q [35] [112, 113, 114] rfl (step_C tab_ok (fun K hk => hk)) ?_
    refine dreg_w [] [] rfl (step_C tab_ok (fun K hk => hk)) ?_
    refine dreg_s [6, 40] [152, 112, 113] (store_row tab_ok rfl rfl rfl ⟨_, ⟨rfl, rfl, rfl⟩, rfl⟩ rfl) ?_
    refine dreg_q [41] [114] rfl (step_C tab_ok (fun K hk => hk)) ?_
    refine dreg_q [42] [] rfl (step_C tab_ok (fun K hk => hk)) ?_
    refine dreg_end (by kernel_rfl) ?_
    refine seq_n ?_
    refine wc_seq ?_
    refine wc_region ?_
    refine reg_quiet rfl (load_box tab_ok rfl rfl rfl rfl) ?_
    refine reg_quiet rfl (step_C tab_ok (fun K hk => hk)) ?_
    refine reg_quiet rfl (call_r hM rfl rfl (arg_A rfl rfl lz lz (arg_ownL rfl rfl arg_nil)) (.inr errP_plain) (fun _ => rfl)) ?_
    refine reg_quiet rfl (step_C tab_ok (fun K hk => hk)) ?_
    refine reg_quiet rfl (step_C tab_ok (fun K hk => hk)) ?_
    refine reg_quiet rfl (step_C tab_ok (fun K hk => hk)) ?_
    refine reg_quiet rfl (step_C tab_ok (fun K hk => hk)) ?_
    refine reg_new (step_C tab_ok (fun K hk => hk)) rfl ?_
    refine reg_store (store_row tab_ok rfl rfl rfl ⟨_, ⟨rfl, rfl, rfl⟩, rfl⟩ rfl) ?_
    refine reg_quiet rfl (step_C tab_ok (fun K hk => hk)) ?_
    refine reg_quiet rfl (step_C tab_ok (fun K hk => hk)) ?_
    refine reg_nil ?_
    refine seq_n ?_
    refine wc_seq ?_
    refine wc_region ?_
    refine reg_quiet rfl (load_box tab_ok rfl rfl rfl rfl) ?_
    refine reg_quiet rfl (call_r hR rfl rfl (arg_A rfl rfl la lb (arg_e arg_nil)) (.inr (read_plain _ _)) (fun _ => rfl)) ?_
    refine reg_quiet rfl (step_C tab_ok (fun K hk => hk)) ?_
    refine reg_quiet rfl (step_C tab_ok (fun K hk => hk)) ?_
    refine reg_quiet rfl (step_C tab_ok (fun K hk => hk)) ?_
    refine reg_new (step_C tab_ok (fun K hk => hk)) rfl ?_
    refine reg_store (store_row tab_ok rfl rfl rfl ⟨_, ⟨rfl, rfl, rfl⟩, rfl⟩ rfl) ?_
    refine reg_quiet rfl (step_C tab_ok (fun K hk => hk)) ?_
    refine reg_nil ?_
    refine seq_n ?_
    refine wc_seq ?_
    refine wc_region ?_
    refine reg_quiet rfl (call_r hB rfl rfl (arg_e arg_nil) (.inl rfl) (fun _ => rfl)) ?_
    refine reg_quiet rfl (step_C tab_ok (fun K hk => hk)) ?_
    refine reg_quiet rfl (step_C tab_ok (fun K hk => hk)) ?_
    refine reg_quiet rfl (step_C tab_ok (fun K hk => hk)) ?_
    refine reg_new (step_C tab_ok (fun K hk => hk)) rfl ?_
    refine reg_store (store_row tab_ok rfl rfl rfl ⟨_, ⟨rfl, rfl, rfl⟩, rfl⟩ rfl) ?_
    refine reg_quiet rfl (step_C tab_ok (fun K hk => hk)) ?_
    refine reg_nil ?_
    refine seq_n ?_
    refine wc_seq ?_
    refine wc_draw (by kernel_rfl) ?_
    refine dreg_q [2] [] rfl (step_C tab_ok (fun K hk => hk)) ?_
    refine dreg_q [8] [] rfl (step_C tab_ok (fun K hk => hk)) ?_
    refine dreg_q [59, 60] [] rfl (add_int tab_ok rfl rfl (wrap_i64 (by omega) (by omega))) ?_
    refine dreg_q [13] [] rfl (step_C tab_ok (fun K hk => hk)) ?_
    refine dreg_q [61, 62] [] rfl (add_int tab_ok rfl rfl (wrap_i64 (by omega) (by omega))) ?_
    refine dreg_q [63] [] rfl (step_C tab_ok (fun K hk => hk)) ?_
    refine dreg_q [64] [] rfl (step_C tab_ok (fun K hk => hk)) ?_
    refine dreg_onq [65, 11] [] rfl rfl rfl rfl (step_C tab_ok (fun K hk => hk)) ?_
    refine dreg_onq [65, 66] [] rfl rfl rfl rfl (step_C tab_ok (fun K hk => hk)) ?_
    refine dreg_q [65, 67] [] rfl (pick_T tab_ok rfl rfl rfl) ?_
    refine dreg_q [68] [] rfl (step_C tab_ok (fun K hk => hk)) ?_
    refine dreg_onq [69, 15] [] rfl rfl rfl rfl (step_C tab_ok (fun K hk => hk)) ?_
    refine dreg_onq [69, 70] [] rfl rfl rfl rfl (step_C tab_ok (fun K hk => hk)) ?_
    refine dreg_q [69, 71] [] rfl (pick_T tab_ok rfl rfl rfl) ?_
    refine dreg_q [72] [] rfl (step_C tab_ok (fun K hk => hk)) ?_
    refine dreg_onq [73, 7] [114] rfl rfl rfl rfl (step_C tab_ok (fun K hk => hk)) ?_
    refine dreg_onq [73, 74] [114] rfl rfl rfl rfl (len_own tab_ok rfl rfl) ?_
    refine dreg_onq [73, 75] [] rfl rfl rfl rfl (step_C tab_ok (fun K hk => hk)) ?_
    refine dreg_q [73, 76] [] rfl (pick_T tab_ok rfl rfl rfl) ?_
    refine dreg_q [77] [] rfl (step_C tab_ok (fun K hk => hk)) ?_
    refine dreg_onq [78, 12] [312] rfl rfl rfl rfl (load_box tab_ok rfl rfl rfl rfl) ?_
    refine dreg_onq [78] [] rfl rfl rfl rfl (call_r (plain_is 255) rfl rfl (arg_e arg_nil) (.inl rfl) (fun _ => rfl)) ?_
    refine dreg_onq [78, 79, 80] [] rfl rfl rfl rfl (eql_data rfl rfl rfl rfl (by kernel_rfl) (by decide) (block_eq (plainB 255) (plainB 255))) ?_
    refine dreg_q [78, 81] [] rfl (pick_T tab_ok rfl rfl rfl) ?_
    refine dreg_q [82] [] rfl (step_C tab_ok (fun K hk => hk)) ?_
    refine dreg_onq [83] [] rfl rfl rfl rfl (call_r lives_is rfl rfl arg_nil (.inl rfl) (fun _ => rfl)) ?_
    refine dreg_q [83, 84] [] rfl (pick_T tab_ok rfl rfl rfl) ?_
    refine dreg_q [85] [] rfl (step_C tab_ok (fun K hk => hk)) ?_
    refine dreg_end (by kernel_rfl) ?_
    refine seq_n ?_
    refine wc_ret ?_
    exact ⟨trivial, [], .of rfl rfl rfl rfl rfl ⟨⟨_, rfl, AVLe.of_eq rfl⟩, rfl, trivial⟩ trivial⟩
end Go.Proofs.Ytjpjchohpjbknaa

/- ArraysKnown: the law. -/
namespace Go.Proofs.Ytjpjchohpjbknaa
open Go.Eng
theorem okA_of2 {N : Nat} {a b : Blks} (h1 : N = a.length) (h2 : N = b.length) (n1 : 1 ≤ N) (n2 : N ≤ 4096) : okA a b = true := by
  have hb : badN (a.length : Int) = false := by
    rw [Bool.or_eq_false_iff]
    exact ⟨decide_eq_false (by omega), decide_eq_false (by omega)⟩
  rw [okA, hb, decide_eq_true (by omega)]
  rfl
theorem arraysKnown_is : FnIs Try.prog 7 [] [] (.bool true) [] := by
  obtain ⟨ops, hop⟩ : ∃ ops, (opsI 257).take 256 = ops := ⟨_, rfl⟩
  have hol : ops.length = 256 := by rw [← hop, List.length_take, opsI_len]; rfl
  have hlast : ops[255]? = some (opI 255) := by
    rw [← hop, List.getElem?_take_of_lt (by omega), opsI, List.getElem?_map, List.getElem?_range (by omega)]
    rfl
  have hzl : 4096 = (zeros 4096).length := by simp
  have hP := play_ok (zeros 4096) (zeros 4096) ops 4096 (zeros_good 4096) (okA_of2 (N := 4096) hzl hzl (by omega) (by omega)) (decide_eq_false (by omega))
  rw [hol] at hP
  have hg := runF_good (zeros_good 4096) ops 256
  have hs := runF_succ (x := (zeros 4096, zeros 4096)) hlast
  have hg2 := runF_good (zeros_good 4096) ops 255
  have hbad : badOp (((runF (zeros 4096, zeros 4096) ops 255).1.length : Nat) : Int) (opI 255) = false := by
    rw [hg2.l1]
    decide +kernel
  have hget : (runF (zeros 4096, zeros 4096) ops 256).1[(4080 : Int).toNat]? = some (plainB 255) := by
    rw [show (256 : Nat) = 255 + 1 from rfl, hs]
    show (doA _ _)[_]? = _
    unfold doA
    rw [hbad, if_neg (by simp), if_pos rfl, show (opI 255).index.toNat = 4080 from by decide +kernel, show (opI 255).data = plainB 255 from by decide +kernel, show ((4080 : Int).toNat) = 4080 from rfl, List.getElem?_set_self (by rw [hg2.l1]; omega)]
  have hok : okA (runF (zeros 4096, zeros 4096) ops 256).1 (runF (zeros 4096, zeros 4096) ops 256).2 = true := okA_of2 hg.l1.symm hg.l2.symm (by omega) (by omega)
  have hR := read_ok (runF (zeros 4096, zeros 4096) ops 256).1 (runF (zeros 4096, zeros 4096) ops 256).2 4080 (plainB 255) (by
    rw [atE, if_pos hok, if_neg]
    unfold outI
    rw [hg.l1]
    decide +kernel) hget
  exact known_core (zeros 4096) _ _ _ ops hzl hg.l1.symm hg.l2.symm hop (new_ok 4096 (by decide +kernel)) hP (play_many _ _ _ (okA_of2 (N := 4096) hzl hzl (by omega) (by omega)) (by rw [opsI_len]; decide +kernel)) hR (new_bad 4097 (by decide +kernel))
end Go.Proofs.Ytjpjchohpjbknaa

/- ArraysKnown: the walked law is the statement. -/
namespace Go.Proofs.Ytjpjchohpjbknaa
open Go.ChangeShapes Go.WideShapes Go.ChangeAt Go.RowKit Go.Eng
theorem own : ownKnob Try.prog.godebug = none := by kernel_rfl
theorem laidOut : laidOutB Try.prog = true := by kernel_rfl
set_option maxRecDepth 100000 in
theorem lifted (os : Os) (started : os.Started) (H : Type) (enc : TypeId × Value → H) :
    ReturnsInHanded {} Try.checked os 7 .any (Rows.arraysKnownSpec.pre6 enc Try.prog Try.f7 Rows.arraysKnownRow.domain false) (Rows.arraysKnownSpec.post enc Try.prog Try.f7 false true false false) := by
  refine returnsInHanded_of_change (C := Try.checked) own started (by kernel_rfl) Try.func7
    (ChangeSpec.witness6 (enc := enc) (C := Try.checked) false ⟨#[], #[], []⟩ 8 (by kernel_rfl) (by kernel_rfl) (by kernel_rfl) (by kernel_rfl)) ?_
  intro W base args ds gs before hval0 hW hcnd _
  have hval : ∀ (j : Nat) t v, Try.f7.params[j]? = some t → args[j]? = some v → Value.okWide Try.prog W .any base t v := hval0
  have hW' := hW
  obtain ⟨p, q, hA0, hV, rfl, hfz, hnd⟩ := hW
  have hA : DataW.TrodAll enc Try.prog W 0 (fun _ => true) true Try.f7.params.toList args.toList ds p := hA0
  rw [Try.params7] at hA hval
  obtain ⟨hargs, rfl, rfl⟩ := trodAll_nil hA
  obtain rfl : args = #[] := Array.ext' (by simpa using hargs)
  obtain ⟨rfl, rfl⟩ := trodVars_none hV
  clear hA0 hval0
  refine (law_calls (arraysKnown_is) (W := W) (args := #[]) rfl).mono fun e W' ⟨he, bel⟩ => ?_
  subst he
  exact ⟨_, rfl, _, _, _, [], _, [], hW', trodAll_mk1 (shut_bool Try.underlying4 _), trodAll_mk0, rfl, bel.frame _, fun h => by cases h⟩

theorem over : Rows.arraysKnownRow.holds Try.pinned (OpenSpec.ofChange Rows.arraysKnownSpec) :=
  OpenClaim.holds_of_wide 7 Try.f7 rfl rfl rfl rfl rfl rfl rfl ⟨rfl, rfl, rfl, rfl, rfl⟩ rfl rfl rfl rfl rfl (by kernel_rfl) Try.func7 (by kernel_rfl)
    (of_decide_eq_true (by kernel_rfl)) (by unfold Func.isWrapper; first | (rw [if_pos (by decide +kernel)]; kernel_rfl) | (rw [if_neg (by decide +kernel)]; exact ⟨rfl, rfl⟩))
    (fun os started H enc _ => lifted os started H enc)
theorem arraysKnown_holds : Rows.ArraysKnownSaid := over
end Go.Proofs.Ytjpjchohpjbknaa
