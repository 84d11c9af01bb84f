/- Arrays: the definition, the operations of the laws, and the examples of the chapter. -/
import Derived.Test.YtjpjchohpjbknaaAA
import Derived.Test.YtjpjchohpjbknaaEngB

set_option linter.unusedVariables false
set_option linter.unusedSimpArgs false

/- Arrays: the definition's Do. -/
namespace Go.Proofs.Ytjpjchohpjbknaa
open Go.Eng
set_option maxHeartbeats 2000000
attribute [local irreducible] WC RegS RegD SeqQ BlkQ ScoQ RegK CutK Sat SatN FnIs LoopQ StepIs OpIs
abbrev ownN (a b : Blks) : AV := ownA 64 a.length none 65 b.length none
abbrev refR (a b : Blks) (v : List Int) (e : Int) : AV := tup3 (ownN a b) (.d (encBlock v)) (.int .i64 e)
def mixI (d x : List Int) (i : Nat) : List Int := d.take i ++ x.drop i
theorem mix_len {d x : List Int} {i : Nat} (hd : d.length = 32) (hx : x.length = 32) (hi : i ≤ 32) : (mixI d x i).length = 32 := by simp [mixI]; omega
theorem mix_get {d x : List Int} {i : Nat} (hd : d.length = 32) (hx : x.length = 32) (hi : i < 32) : ∃ v, (mixI d x i)[i]? = some v := by
  have := mix_len hd hx (Nat.le_of_lt hi)
  exact ⟨(mixI d x i)[i]'(by omega), by simp [show i < (mixI d x i).length by omega]⟩
theorem mix_set {d x : List Int} {i : Nat} {v : Int} (hd : d.length = 32) (hx : x.length = 32) (hi : i < 32) (hv : d[i]? = some v) : (mixI d x i).set i v = mixI d x (i + 1) := by
  refine List.ext_getElem? fun j => ?_
  have hl := mix_len hd hx (Nat.le_of_lt hi)
  have htl : (d.take i).length = i := by simp; omega
  have htl2 : (d.take (i + 1)).length = i + 1 := by simp; omega
  rw [List.getElem?_set]
  by_cases e : i = j
  · subst e
    rw [if_pos rfl, if_pos (by omega), mixI, List.getElem?_append_left (by omega), List.getElem?_take, if_pos (by omega), hv]
  · rw [if_neg e, mixI, mixI]
    by_cases hj : j < i
    · rw [List.getElem?_append_left (by omega), List.getElem?_append_left (by omega), List.getElem?_take, List.getElem?_take, if_pos hj, if_pos (by omega)]
    · rw [List.getElem?_append_right (by omega), List.getElem?_append_right (by omega), htl, htl2, List.getElem?_drop, List.getElem?_drop]
      congr 1; omega
theorem set_self {l : Blks} {i : Nat} {x : List Int} (h : l[i]? = some x) : l.set i x = l := by
  refine List.ext_getElem? fun j => ?_
  rw [List.getElem?_set]
  split
  · rename_i e; subst e
    rw [if_pos (List.getElem?_eq_some_iff.1 h).1, h]
  · rfl
theorem mix_zero (d x : List Int) : mixI d x 0 = x := by simp [mixI]
theorem mix_full {d x : List Int} (hd : d.length = 32) (hx : x.length = 32) : mixI d x 32 = d := by
  have e1 : d.take 32 = d := List.take_of_length_le (by omega)
  have e2 : x.drop 32 = [] := List.drop_eq_nil_of_le (by omega)
  rw [mixI, e1, e2, List.append_nil]
theorem refdo_is (a b : Blks) (o : Oper) (hab : a.length = b.length) (hla : 0 < a.length) (hla2 : a.length ≤ 1000000) (hw : ∀ x ∈ a, x.length = 32) : FnIs Try.prog 19 [.d (encA a b), .d (encOp o)] [] (refR a b (doV a o) (doE a o)) [(64, rowB false (doA a o)), (65, rowB false (doB a b o))] := by
  have hlb : 0 < b.length := by omega
  have hlb2 : b.length ≤ 1048576 := by omega
  replace hla2 : a.length ≤ 1048576 := by omega
  have hB := refbad_is a.length o
  cases hb : badOp a.length o with
  | true =>
    rw [hb] at hB
    rw [show doV a o = zeroBlock by simp [doV, hb], show doE a o = 1 by simp [doE, hb], show doA a o = a by simp [doA, hb], show doB a b o = b by simp [doB, hb]]
    refine fnIs_of tab_ok Try.func19 rfl rfl rfl ?_
    refine wc_seq ?_
    refine wc_region ?_
    refine reg_new (step_C tab_ok (fun K hk => hk)) rfl ?_
    refine reg_new (step_C tab_ok (fun K hk => hk)) rfl ?_
    refine reg_new (step_C tab_ok (fun K hk => hk)) rfl ?_
    refine reg_new (step_C tab_ok (fun K hk => hk)) rfl ?_
    refine reg_quiet rfl (step_C tab_ok (fun K hk => hk)) ?_
    refine reg_nil ?_
    refine seq_n ?_
    refine wc_seq ?_
    refine wc_region ?_
    refine reg_quiet rfl (load_box tab_ok rfl rfl rfl rfl) ?_
    refine reg_new2 (call_new (refcopy_is a b hla hla2 hlb hlb2) rfl rfl (arg_e arg_nil) (.inl rfl) rfl rfl) rfl ?_
    refine reg_new (step_C tab_ok (fun K hk => hk)) rfl ?_
    refine reg_store (store_row tab_ok rfl rfl rfl ⟨_, ⟨rfl, rfl, rfl⟩, rfl⟩ rfl) ?_
    refine reg_nil ?_
    refine seq_n ?_
    refine wc_seq ?_
    refine wc_seq ?_
    refine wc_region ?_
    refine reg_quiet rfl (step_C tab_ok (fun K hk => hk)) ?_
    refine reg_quiet rfl (load_box tab_ok rfl rfl ⟨_, rfl, rfl⟩ rfl) ?_
    refine reg_quiet rfl (len_arr tab_ok rfl rfl) ?_
    refine reg_quiet rfl (load_box tab_ok rfl rfl rfl rfl) ?_
    refine reg_quiet rfl (call_r hB rfl rfl (arg_e (arg_e arg_nil)) (.inl rfl) (fun _ => rfl)) ?_
    refine reg_nil ?_
    refine seq_n ?_
    refine wc_true rfl rfl ?_
    refine wc_seq ?_
    refine wc_region ?_
    refine reg_quiet rfl (load_box tab_ok rfl rfl rfl rfl) ?_
    refine reg_quiet rfl (build_array tab_ok rfl rfl rfl) ?_
    refine reg_store (store_row tab_ok rfl rfl rfl ⟨_, ⟨rfl, rfl, rfl⟩, rfl⟩ rfl) ?_
    refine reg_store (store_row tab_ok rfl rfl rfl ⟨_, ⟨rfl, rfl, rfl⟩, rfl⟩ rfl) ?_
    refine reg_quiet rfl (step_C tab_ok (fun K hk => hk)) ?_
    refine reg_nil ?_
    refine seq_n ?_
    refine wc_ret ?_
    refine seq_r ?_
    exact ⟨trivial, _, rfl, _, rfl, [(64, some 112), (65, some 113)], .of rfl rfl rfl rfl rfl ⟨⟨_, rfl, AVLe.of_eq rfl⟩, rfl, trivial⟩ ⟨⟨rfl, rfl, _, rfl, .refl _⟩, ⟨rfl, rfl, _, rfl, .refl _⟩, trivial⟩⟩
  | false =>
    rw [hb] at hB
    obtain ⟨k, idx, data⟩ := o
    rw [show doE a ⟨k, idx, data⟩ = 0 by simp [doE, hb]]
    rcases good_op hb with ⟨hk, h0, h1⟩ | ⟨hk, h0, h1, hd⟩ | hk
    · simp only at hk h0 h1
      subst hk
      obtain ⟨x, hx⟩ : ∃ x, a[idx.toNat]? = some x := ⟨_, List.getElem?_eq_getElem (by omega)⟩
      rw [show doV a ⟨1, idx, data⟩ = x by simp [doV, hb, hx], show doA a ⟨1, idx, data⟩ = a by simp [doA, hb], show doB a b ⟨1, idx, data⟩ = b by simp [doB, hb]]
      refine fnIs_of tab_ok Try.func19 rfl rfl rfl ?_
      refine wc_seq ?_
      refine wc_region ?_
      refine reg_new (step_C tab_ok (fun K hk => hk)) rfl ?_
      refine reg_new (step_C tab_ok (fun K hk => hk)) rfl ?_
      refine reg_new (step_C tab_ok (fun K hk => hk)) rfl ?_
      refine reg_new (step_C tab_ok (fun K hk => hk)) rfl ?_
      refine reg_quiet rfl (step_C tab_ok (fun K hk => hk)) ?_
      refine reg_nil ?_
      refine seq_n ?_
      refine wc_seq ?_
      refine wc_region ?_
      refine reg_quiet rfl (load_box tab_ok rfl rfl rfl rfl) ?_
      refine reg_new2 (call_new (refcopy_is a b hla hla2 hlb hlb2) rfl rfl (arg_e arg_nil) (.inl rfl) rfl rfl) rfl ?_
      refine reg_new (step_C tab_ok (fun K hk => hk)) rfl ?_
      refine reg_store (store_row tab_ok rfl rfl rfl ⟨_, ⟨rfl, rfl, rfl⟩, rfl⟩ rfl) ?_
      refine reg_nil ?_
      refine seq_n ?_
      refine wc_seq ?_
      refine wc_seq ?_
      refine wc_region ?_
      refine reg_quiet rfl (step_C tab_ok (fun K hk => hk)) ?_
      refine reg_quiet rfl (load_box tab_ok rfl rfl ⟨_, rfl, rfl⟩ rfl) ?_
      refine reg_quiet rfl (len_arr tab_ok rfl rfl) ?_
      refine reg_quiet rfl (load_box tab_ok rfl rfl rfl rfl) ?_
      refine reg_quiet rfl (call_r hB rfl rfl (arg_e (arg_e arg_nil)) (.inl rfl) (fun _ => rfl)) ?_
      refine reg_nil ?_
      refine seq_n ?_
      refine wc_false rfl rfl ?_
      refine wc_skip ?_
      refine seq_n ?_
      refine wc_seq ?_
      refine wc_seq ?_
      refine wc_region ?_
      refine reg_quiet rfl (step_C tab_ok (fun K hk => hk)) ?_
      refine reg_quiet rfl (load_box tab_ok rfl rfl ⟨_, rfl, rfl⟩ rfl) ?_
      refine reg_nil ?_
      refine seq_n ?_
      refine wc_block ?_
      refine wc_seq ?_
      refine wc_region ?_
      refine reg_quiet rfl (step_C tab_ok (fun K hk => hk)) ?_
      refine reg_quiet rfl (step_C tab_ok (fun K hk => hk)) ?_
      refine reg_nil ?_
      refine seq_n ?_
      refine wc_true rfl rfl ?_
      refine wc_seq ?_
      refine wc_draw (by kernel_rfl) ?_
      refine dreg_q [7] [120, 112, 113] rfl (load_box tab_ok rfl rfl rfl rfl) ?_
      refine dreg_q [7] [120, 112, 113] rfl (step_C tab_ok (fun K hk => hk)) ?_
      refine dreg_q [23] [120, 112, 113] rfl (load_box tab_ok rfl rfl rfl rfl) ?_
      refine dreg_q [3] [72] rfl (step_C tab_ok (fun K hk => hk)) ?_
      refine dreg_q [25] [72] rfl (load_box tab_ok rfl rfl ⟨_, rfl, rfl⟩ rfl) ?_
      refine dreg_q [24, 26] [112] rfl (index_own tab_ok rfl rfl rfl rfl rfl (by omega) (by omega)) ?_
      refine dreg_q [27] [112] rfl (load_row (v := .d (encBlock x)) tab_ok rfl rfl ⟨rfl, x, hx, encBlock x, rfl, rfl⟩ rfl) ?_
      refine dreg_s [4, 22] [80, 112, 113] (store_row tab_ok rfl rfl rfl ⟨_, ⟨rfl, rfl, rfl⟩, rfl⟩ rfl) ?_
      refine dreg_s [5, 28] [88] (store_row tab_ok rfl rfl rfl ⟨_, ⟨rfl, rfl, rfl⟩, rfl⟩ rfl) ?_
      refine dreg_q [] [] rfl (step_C tab_ok (fun K hk => hk)) ?_
      refine dreg_end (by kernel_rfl) ?_
      refine seq_n ?_
      refine wc_ret ?_
      refine blk_r ?_
      refine seq_r ?_
      exact ⟨trivial, _, rfl, _, rfl, [(64, some 112), (65, some 113)], .of rfl rfl rfl rfl rfl ⟨⟨_, rfl, AVLe.of_eq rfl⟩, rfl, trivial⟩ ⟨⟨rfl, rfl, _, rfl, .refl _⟩, ⟨rfl, rfl, _, rfl, .refl _⟩, trivial⟩⟩
    · simp only at hk h0 h1 hd
      subst hk
      obtain ⟨x, hx⟩ : ∃ x, a[idx.toNat]? = some x := ⟨_, List.getElem?_eq_getElem (by omega)⟩
      have hxl := hw x (List.mem_of_getElem? hx)
      rw [show doV a ⟨2, idx, data⟩ = zeroBlock by simp [doV, hb], show doA a ⟨2, idx, data⟩ = a.set idx.toNat data by simp [doA, hb], show doB a b ⟨2, idx, data⟩ = b by simp [doB, hb]]
      refine fnIs_of tab_ok Try.func19 rfl rfl rfl ?_
      refine wc_seq ?_
      refine wc_region ?_
      refine reg_new (step_C tab_ok (fun K hk => hk)) rfl ?_
      refine reg_new (step_C tab_ok (fun K hk => hk)) rfl ?_
      refine reg_new (step_C tab_ok (fun K hk => hk)) rfl ?_
      refine reg_new (step_C tab_ok (fun K hk => hk)) rfl ?_
      refine reg_quiet rfl (step_C tab_ok (fun K hk => hk)) ?_
      refine reg_nil ?_
      refine seq_n ?_
      refine wc_seq ?_
      refine wc_region ?_
      refine reg_quiet rfl (load_box tab_ok rfl rfl rfl rfl) ?_
      refine reg_new2 (call_new (refcopy_is a b hla hla2 hlb hlb2) rfl rfl (arg_e arg_nil) (.inl rfl) rfl rfl) rfl ?_
      refine reg_new (step_C tab_ok (fun K hk => hk)) rfl ?_
      refine reg_store (store_row tab_ok rfl rfl rfl ⟨_, ⟨rfl, rfl, rfl⟩, rfl⟩ rfl) ?_
      refine reg_nil ?_
      refine seq_n ?_
      refine wc_seq ?_
      refine wc_seq ?_
      refine wc_region ?_
      refine reg_quiet rfl (step_C tab_ok (fun K hk => hk)) ?_
      refine reg_quiet rfl (load_box tab_ok rfl rfl ⟨_, rfl, rfl⟩ rfl) ?_
      refine reg_quiet rfl (len_arr tab_ok rfl rfl) ?_
      refine reg_quiet rfl (load_box tab_ok rfl rfl rfl rfl) ?_
      refine reg_quiet rfl (call_r hB rfl rfl (arg_e (arg_e arg_nil)) (.inl rfl) (fun _ => rfl)) ?_
      refine reg_nil ?_
      refine seq_n ?_
      refine wc_false rfl rfl ?_
      refine wc_skip ?_
      refine seq_n ?_
      refine wc_seq ?_
      refine wc_seq ?_
      refine wc_region ?_
      refine reg_quiet rfl (step_C tab_ok (fun K hk => hk)) ?_
      refine reg_quiet rfl (load_box tab_ok rfl rfl ⟨_, rfl, rfl⟩ rfl) ?_
      refine reg_nil ?_
      refine seq_n ?_
      refine wc_block ?_
      refine wc_seq ?_
      refine wc_region ?_
      refine reg_quiet rfl (step_C tab_ok (fun K hk => hk)) ?_
      refine reg_quiet rfl (step_C tab_ok (fun K hk => hk)) ?_
      refine reg_nil ?_
      refine seq_n ?_
      refine wc_false rfl rfl ?_
      refine wc_seq ?_
      refine wc_region ?_
      refine reg_quiet rfl (step_C tab_ok (fun K hk => hk)) ?_
      refine reg_quiet rfl (step_C tab_ok (fun K hk => hk)) ?_
      refine reg_nil ?_
      refine seq_n ?_
      refine wc_true rfl rfl ?_
      refine wc_seq ?_
      refine wc_region ?_
      refine reg_quiet rfl (step_C tab_ok (fun K hk => hk)) ?_
      refine reg_nil ?_
      refine seq_n ?_
      refine wc_block ?_
      refine wc_inv (fun i : Nat => ⟨[(8, .int .i64 i), (3, .ptr 64 []), (4, .ptr 65 []), (5, .ptr 66 []), (7, .ptr 67 [])], [(64, some (.box 47 (.d (encOp ⟨2, idx, data⟩)))), (65, some (.box 35 (.d zeroA))), (66, some (.box 41 (.d (encBlock zeroBlock)))), (67, some (.box 35 (ownA 68 a.length none 69 b.length none))), (68, some (rowB false (a.set idx.toNat (mixI data x i)))), (69, some (rowB false b))], 72, Try.f19.ntmps, 64⟩) (fun i => i ≤ 32) (fun i => 32 - i) 0 [(64, some 72), (65, some 80), (66, some 88), (67, some 120), (68, some 112), (69, some 113)] (by omega)
        (.of rfl rfl rfl rfl rfl ⟨⟨_, rfl, .refl _⟩, rfl, ⟨_, rfl, .refl _⟩, rfl, ⟨_, rfl, .refl _⟩, rfl, ⟨_, rfl, .refl _⟩, rfl, ⟨_, rfl, .refl _⟩, rfl, trivial⟩ ⟨⟨rfl, rfl, _, rfl, .refl _⟩, ⟨rfl, rfl, _, rfl, .refl _⟩, ⟨rfl, rfl, _, rfl, .refl _⟩, ⟨rfl, rfl, _, rfl, .refl _⟩, ⟨rfl, rfl, _, rfl, .of_eq (by rw [mix_zero, set_self hx]; rfl)⟩, ⟨rfl, rfl, _, rfl, .refl _⟩, trivial⟩) ?_
      intro i hi
      refine wc_of ?_
      refine wc_seq ?_
      refine wc_seq ?_
      refine wc_region ?_
      refine reg_quiet rfl (step_C tab_ok (fun K hk => hk)) ?_
      refine reg_quiet rfl (step_C tab_ok (fun K hk => hk)) ?_
      refine reg_nil ?_
      refine seq_n ?_
      refine wc_cond rfl (fun h2 => ?_) (fun h2 => ?_)
      · have hlt : i < 32 := by have := of_decide_eq_true h2; omega
        obtain ⟨u, hu0⟩ := mix_get hd hxl hlt
        obtain ⟨v, hv0⟩ : ∃ v, data[i]? = some v := ⟨data[i]'(by omega), by simp [show i < data.length by omega]⟩
        have hm : (a.set idx.toNat (mixI data x i))[idx.toNat]? = some (mixI data x i) := by rw [List.getElem?_set, if_pos rfl, if_pos (by omega)]
        have hv : data[((i : Int)).toNat]? = some v := by rw [Int.toNat_natCast]; exact hv0
        have hu : (mixI data x i)[((i : Int)).toNat]? = some u := by rw [Int.toNat_natCast]; exact hu0
        refine wc_skip ?_
        refine seq_n ?_
        refine wc_seq ?_
        refine wc_block ?_
        refine wc_draw (by kernel_rfl) ?_
        refine dreg_q [7] [67, 68, 69] rfl (step_C tab_ok (fun K hk => hk)) ?_
        refine dreg_q [35] [67, 68, 69] rfl (load_box tab_ok rfl rfl rfl rfl) ?_
        refine dreg_q [3] [64] rfl (step_C tab_ok (fun K hk => hk)) ?_
        refine dreg_q [37] [64] rfl (load_box tab_ok rfl rfl ⟨_, rfl, rfl⟩ rfl) ?_
        refine dreg_q [8] [] rfl (step_C tab_ok (fun K hk => hk)) ?_
        refine dreg_q [3] [64] rfl (step_C tab_ok (fun K hk => hk)) ?_
        refine dreg_q [40] [64] rfl (load_box tab_ok rfl rfl ⟨_, rfl, rfl⟩ rfl) ?_
        refine dreg_q [8] [] rfl (step_C tab_ok (fun K hk => hk)) ?_
        refine dreg_q [41, 42] [] rfl (index_arr tab_ok rfl rfl rfl rfl rfl (by omega) hv) ?_
        refine dreg_q [43] [] rfl (load_i tab_ok rfl rfl) ?_
        refine dreg_q [36, 38] [68] rfl (index_own tab_ok rfl rfl rfl rfl rfl (by omega) (by omega)) ?_
        refine dreg_q [45, 39] [68] rfl (step_C tab_ok (fun K hk => ⟨by omega, by omega, hk⟩)) ?_
        refine dreg_s [46, 44] [68] (store_row tab_ok rfl rfl rfl ⟨rfl, mixI data x i, (mixI data x i).set i v, hm, ⟨rfl, u, v, hu, ⟨rfl, rfl, rfl⟩, rfl⟩, rfl⟩ rfl) ?_
        refine dreg_end (by kernel_rfl) ?_
        refine blk_n ?_
        refine seq_n ?_
        refine wc_region ?_
        refine reg_quiet rfl (step_C tab_ok (fun K hk => hk)) ?_
        refine reg_quiet rfl (add_int tab_ok rfl rfl (wrap_i64 (by omega) (by omega))) ?_
        refine reg_quiet rfl (step_C tab_ok (fun K hk => hk)) ?_
        refine reg_nil ?_
        refine loop_n (i + 1) [(64, some 64), (65, some 65), (66, some 66), (67, some 67), (68, some 68), (69, some 69)] hlt (by omega) ?_
        exact .of rfl rfl rfl rfl rfl ⟨⟨_, rfl, .refl _⟩, rfl, ⟨_, rfl, .refl _⟩, rfl, ⟨_, rfl, .refl _⟩, rfl, ⟨_, rfl, .refl _⟩, rfl, ⟨_, rfl, .refl _⟩, rfl, trivial⟩ ⟨⟨rfl, rfl, _, rfl, .refl _⟩, ⟨rfl, rfl, _, rfl, .refl _⟩, ⟨rfl, rfl, _, rfl, .refl _⟩, ⟨rfl, rfl, _, rfl, .refl _⟩, ⟨rfl, rfl, _, rfl, .of_eq (by rw [← mix_set hd hxl hlt hv0]; simp [Row.ren, List.set_set])⟩, ⟨rfl, rfl, _, rfl, .refl _⟩, trivial⟩
      · obtain rfl : i = 32 := by have := of_decide_eq_false h2; omega
        rw [mix_full hd hxl]
        refine wc_exit ?_
        refine seq_x ?_
        refine loop_x ?_
        refine blk_x ?_
        refine blk_n ?_
        refine seq_n ?_
        refine wc_seq ?_
        refine wc_region ?_
        refine reg_quiet rfl (load_box tab_ok rfl rfl rfl rfl) ?_
        refine reg_quiet rfl (build_array tab_ok rfl rfl rfl) ?_
        refine reg_store (store_row tab_ok rfl rfl rfl ⟨_, ⟨rfl, rfl, rfl⟩, rfl⟩ rfl) ?_
        refine reg_store (store_row tab_ok rfl rfl rfl ⟨_, ⟨rfl, rfl, rfl⟩, rfl⟩ rfl) ?_
        refine reg_quiet rfl (step_C tab_ok (fun K hk => hk)) ?_
        refine reg_nil ?_
        refine seq_n ?_
        refine wc_ret ?_
        exact ⟨trivial, _, rfl, _, rfl, [(64, some 68), (65, some 69)], .of rfl rfl rfl rfl rfl ⟨⟨_, rfl, AVLe.of_eq rfl⟩, rfl, trivial⟩ ⟨⟨rfl, rfl, _, rfl, .refl _⟩, ⟨rfl, rfl, _, rfl, .refl _⟩, trivial⟩⟩
    · simp only at hk
      subst hk
      have hmx : a.length ≤ maxLen := by simp only [maxLen]; omega
      have hby : a.length * r41.bytes ≤ 140737488355328 := by rw [show r41.bytes = 32 from rfl]; omega
      rw [show doV a ⟨3, idx, data⟩ = zeroBlock by simp [doV, hb], show doA a ⟨3, idx, data⟩ = a by simp [doA, hb], show doB a b ⟨3, idx, data⟩ = a by simp [doB, hb]]
      refine fnIs_of tab_ok Try.func19 rfl rfl rfl ?_
      refine wc_seq ?_
      refine wc_region ?_
      refine reg_new (step_C tab_ok (fun K hk => hk)) rfl ?_
      refine reg_new (step_C tab_ok (fun K hk => hk)) rfl ?_
      refine reg_new (step_C tab_ok (fun K hk => hk)) rfl ?_
      refine reg_new (step_C tab_ok (fun K hk => hk)) rfl ?_
      refine reg_quiet rfl (step_C tab_ok (fun K hk => hk)) ?_
      refine reg_nil ?_
      refine seq_n ?_
      refine wc_seq ?_
      refine wc_region ?_
      refine reg_quiet rfl (load_box tab_ok rfl rfl rfl rfl) ?_
      refine reg_new2 (call_new (refcopy_is a b hla hla2 hlb hlb2) rfl rfl (arg_e arg_nil) (.inl rfl) rfl rfl) rfl ?_
      refine reg_new (step_C tab_ok (fun K hk => hk)) rfl ?_
      refine reg_store (store_row tab_ok rfl rfl rfl ⟨_, ⟨rfl, rfl, rfl⟩, rfl⟩ rfl) ?_
      refine reg_nil ?_
      refine seq_n ?_
      refine wc_seq ?_
      refine wc_seq ?_
      refine wc_region ?_
      refine reg_quiet rfl (step_C tab_ok (fun K hk => hk)) ?_
      refine reg_quiet rfl (load_box tab_ok rfl rfl ⟨_, rfl, rfl⟩ rfl) ?_
      refine reg_quiet rfl (len_arr tab_ok rfl rfl) ?_
      refine reg_quiet rfl (load_box tab_ok rfl rfl rfl rfl) ?_
      refine reg_quiet rfl (call_r hB rfl rfl (arg_e (arg_e arg_nil)) (.inl rfl) (fun _ => rfl)) ?_
      refine reg_nil ?_
      refine seq_n ?_
      refine wc_false rfl rfl ?_
      refine wc_skip ?_
      refine seq_n ?_
      refine wc_seq ?_
      refine wc_seq ?_
      refine wc_region ?_
      refine reg_quiet rfl (step_C tab_ok (fun K hk => hk)) ?_
      refine reg_quiet rfl (load_box tab_ok rfl rfl ⟨_, rfl, rfl⟩ rfl) ?_
      refine reg_nil ?_
      refine seq_n ?_
      refine wc_block ?_
      refine wc_seq ?_
      refine wc_region ?_
      refine reg_quiet rfl (step_C tab_ok (fun K hk => hk)) ?_
      refine reg_quiet rfl (step_C tab_ok (fun K hk => hk)) ?_
      refine reg_nil ?_
      refine seq_n ?_
      refine wc_false rfl rfl ?_
      refine wc_seq ?_
      refine wc_region ?_
      refine reg_quiet rfl (step_C tab_ok (fun K hk => hk)) ?_
      refine reg_quiet rfl (step_C tab_ok (fun K hk => hk)) ?_
      refine reg_nil ?_
      refine seq_n ?_
      refine wc_false rfl rfl ?_
      refine wc_seq ?_
      refine wc_region ?_
      refine reg_quiet rfl (step_C tab_ok (fun K hk => hk)) ?_
      refine reg_quiet rfl (step_C tab_ok (fun K hk => hk)) ?_
      refine reg_nil ?_
      refine seq_n ?_
      refine wc_true rfl rfl ?_
      refine wc_region ?_
      refine reg_quiet rfl (step_C tab_ok (fun K hk => hk)) ?_
      refine reg_quiet rfl (load_box tab_ok rfl rfl rfl rfl) ?_
      refine reg_new (append_empty (s := 32) (enc := encBlock) (ys := a) (v := .d (.sc (.slice none 0 0))) tab_ok rfl rfl rfl rfl (.inr rfl) hla hmx hby (src_own rfl rfl rfl hla)) rfl ?_
      refine reg_quiet rfl (step_C tab_ok (fun K hk => hk)) ?_
      refine reg_store (store_row tab_ok rfl rfl rfl ⟨_, ⟨_, ⟨rfl, rfl, rfl⟩, rfl⟩, rfl⟩ rfl) ?_
      refine reg_nil ?_
      refine blk_n ?_
      refine seq_n ?_
      refine wc_seq ?_
      refine wc_region ?_
      refine reg_quiet rfl (load_box tab_ok rfl rfl rfl rfl) ?_
      refine reg_quiet rfl (build_array tab_ok rfl rfl rfl) ?_
      refine reg_store (store_row tab_ok rfl rfl rfl ⟨_, ⟨rfl, rfl, rfl⟩, rfl⟩ rfl) ?_
      refine reg_store (store_row tab_ok rfl rfl rfl ⟨_, ⟨rfl, rfl, rfl⟩, rfl⟩ rfl) ?_
      refine reg_quiet rfl (step_C tab_ok (fun K hk => hk)) ?_
      refine reg_nil ?_
      refine seq_n ?_
      refine wc_ret ?_
      exact ⟨trivial, _, rfl, _, rfl, [(64, some 112), (65, some 256)], .of rfl rfl rfl rfl rfl ⟨⟨_, rfl, AVLe.of_eq (by show _ = AV.ren _ (tup3 (ownA 64 a.length none 65 b.length none) _ _); rw [← hab]; rfl)⟩, rfl, trivial⟩ ⟨⟨rfl, rfl, _, rfl, .refl _⟩, ⟨rfl, rfl, _, rfl, .refl _⟩, trivial⟩⟩
end Go.Proofs.Ytjpjchohpjbknaa

/- Arrays: Plain, the law's same and array, Clip. -/
namespace Go.Proofs.Ytjpjchohpjbknaa
open Go.Eng
set_option maxHeartbeats 2000000
attribute [local irreducible] WC RegS RegD SeqQ BlkQ ScoQ RegK CutK Sat SatN FnIs LoopQ StepIs OpIs
def plainB (s : Int) : List Int := (List.range 32).map fun (i : Nat) => IntKind.u8.wrap (s * IntKind.u8.wrap ((i : Int) + 1))
theorem plain_len (s : Int) : (plainB s).length = 32 := by simp [plainB]
theorem plain_get {s : Int} {i : Nat} (h : i < 32) : (plainB s)[i]? = some (IntKind.u8.wrap (s * IntKind.u8.wrap ((i : Int) + 1))) := by simp [plainB, h]
theorem zero_len : zeroBlock.length = 32 := rfl
theorem plain_is (s : Int) : FnIs Try.prog 35 [.d (u8s s)] [] (.d (encBlock (plainB s))) [] := by
  refine fnIs_of tab_ok Try.func35 rfl rfl rfl ?_
  refine wc_seq ?_
  refine wc_region ?_
  refine reg_new (step_C tab_ok (fun K hk => hk)) rfl ?_
  refine reg_nil ?_
  refine seq_n ?_
  refine wc_seq ?_
  refine wc_region ?_
  refine reg_new (step_C tab_ok (fun K hk => hk)) rfl ?_
  refine reg_nil ?_
  refine seq_n ?_
  refine wc_seq ?_
  refine wc_seq ?_
  refine wc_region ?_
  refine reg_quiet rfl (step_C tab_ok (fun K hk => hk)) ?_
  refine reg_nil ?_
  refine seq_n ?_
  refine wc_block ?_
  refine wc_inv (fun i : Nat => ⟨[(4, .int .i64 i), (0, .d (u8s s)), (2, .ptr 64 []), (3, .ptr 65 [])], [(64, some (.box 41 (.d (encBlock zeroBlock)))), (65, some (.box 41 (.d (encBlock (mixI (plainB s) zeroBlock i)))))], 72, Try.f35.ntmps, 64⟩) (fun i => i ≤ 32) (fun i => 32 - i) 0 [(64, some 64), (65, some 72)] (by omega)
    (.of rfl rfl rfl rfl rfl ⟨⟨_, rfl, .refl _⟩, rfl, ⟨_, rfl, .refl _⟩, rfl, ⟨_, rfl, .refl _⟩, rfl, ⟨_, rfl, .refl _⟩, rfl, trivial⟩ ⟨⟨rfl, rfl, _, rfl, .refl _⟩, ⟨rfl, rfl, _, rfl, .of_eq (by rw [mix_zero]; rfl)⟩, trivial⟩) ?_
  intro i hi
  refine wc_of ?_
  refine wc_seq ?_
  refine wc_seq ?_
  refine wc_region ?_
  refine reg_quiet rfl (step_C tab_ok (fun K hk => hk)) ?_
  refine reg_quiet rfl (step_C tab_ok (fun K hk => hk)) ?_
  refine reg_nil ?_
  refine seq_n ?_
  refine wc_cond rfl (fun h2 => ?_) (fun h2 => ?_)
  · have hlt : i < 32 := by have := of_decide_eq_true h2; omega
    obtain ⟨u, hu0⟩ := mix_get (plain_len s) zero_len hlt
    have hu : (mixI (plainB s) zeroBlock i)[((i : Int)).toNat]? = some u := by rw [Int.toNat_natCast]; exact hu0
    have hs := mix_set (plain_len s) zero_len hlt (plain_get hlt)
    refine wc_skip ?_
    refine seq_n ?_
    refine wc_seq ?_
    refine wc_block ?_
    refine wc_region ?_
    refine reg_quiet rfl (step_C tab_ok (fun K hk => hk)) ?_
    refine reg_quiet rfl (step_C tab_ok (fun K hk => hk)) ?_
    refine reg_quiet rfl (step_C tab_ok (fun K hk => hk)) ?_
    refine reg_quiet rfl (add_int tab_ok rfl rfl (wrap_i64 (by omega) (by omega))) ?_
    refine reg_quiet rfl (conv_int tab_ok rfl rfl rfl rfl) ?_
    refine reg_quiet rfl (mul_int tab_ok rfl rfl rfl) ?_
    refine reg_quiet rfl (step_C tab_ok (fun K hk => ⟨by omega, by omega, hk⟩)) ?_
    refine reg_store (store_row tab_ok rfl rfl rfl ⟨_, ⟨_, ⟨rfl, u, IntKind.u8.wrap (s * IntKind.u8.wrap ((i : Int) + 1)), hu, ⟨rfl, rfl, rfl⟩, rfl⟩, rfl⟩, rfl⟩ rfl) ?_
    refine reg_nil ?_
    refine blk_n ?_
    refine seq_n ?_
    refine wc_region ?_
    refine reg_quiet rfl (step_C tab_ok (fun K hk => hk)) ?_
    refine reg_quiet rfl (add_int tab_ok rfl rfl (wrap_i64 (by omega) (by omega))) ?_
    refine reg_quiet rfl (step_C tab_ok (fun K hk => hk)) ?_
    refine reg_nil ?_
    refine loop_n (i + 1) [(64, some 64), (65, some 65)] hlt (by omega) ?_
    exact .of rfl rfl rfl rfl rfl ⟨⟨_, rfl, .refl _⟩, rfl, ⟨_, rfl, .refl _⟩, rfl, ⟨_, rfl, .refl _⟩, rfl, ⟨_, rfl, .refl _⟩, rfl, trivial⟩ ⟨⟨rfl, rfl, _, rfl, .refl _⟩, ⟨rfl, rfl, _, rfl, .of_eq (by rw [← hs]; rfl)⟩, trivial⟩
  · obtain rfl : i = 32 := by have := of_decide_eq_false h2; omega
    rw [mix_full (plain_len s) zero_len]
    refine wc_exit ?_
    refine seq_x ?_
    refine loop_x ?_
    refine blk_x ?_
    refine seq_n ?_
    refine wc_seq ?_
    refine wc_region ?_
    refine reg_quiet rfl (load_box tab_ok rfl rfl rfl rfl) ?_
    refine reg_store (store_row tab_ok rfl rfl rfl ⟨_, ⟨rfl, rfl, rfl⟩, rfl⟩ rfl) ?_
    refine reg_nil ?_
    refine seq_n ?_
    refine wc_ret ?_
    exact ⟨trivial, _, rfl, [], .of rfl rfl rfl rfl rfl ⟨⟨_, rfl, AVLe.of_eq rfl⟩, rfl, trivial⟩ trivial⟩
abbrev sameRows (a b c d : Blks) (e1 e2 e3 e4 : Bool) : List (Nat × Row) := [(0, rowB e1 a), (1, rowB e2 b), (2, rowB e3 c), (3, rowB e4 d)]
theorem int_plain (k : IntKind) (n : Int) : PlainRes (.int k n) [] := .of trivial plain_rows_nil
theorem bool_plain (b : Bool) : PlainRes (.bool b) [] := .of trivial plain_rows_nil
/-- A slice that the caller owns, lent; its length is told apart. -/
theorem sameB (a b : Blks) : (!decide (a = b)) = !decide (a = b) := rfl
theorem lawsame_some (a b c d : Blks) (c1 c2 : Option Nat) (e1 e2 e3 e4 : Bool) (hla : a.length ≤ 1000000) (hlb : b.length ≤ 1000000) (hlc : c.length ≤ 1000000) (hld : d.length ≤ 1000000) : FnIs Try.prog 16 [ownA 0 a.length (some a.length) 1 b.length (some b.length), ownA 2 c.length c1 3 d.length c2] (sameRows a b c d e1 e2 e3 e4) (.int .i64 (if (decide (a = c) && decide (b = d)) = true then 1 else 0)) (sameRows a b c d e1 e2 e3 e4) := by
  have n1 : (!decide ((a.length : Int) = a.length)) = false := by simp
  have n2 : (!decide ((b.length : Int) = b.length)) = false := by simp
  cases h1 : decide (a = c) with
  | false =>
    have h1' : (!decide (a = c)) = true := by rw [h1]; rfl
    refine fnIs_of tab_ok Try.func16 rfl rfl rfl ?_
    refine wc_seq ?_
    refine wc_region ?_
    refine reg_new (step_C tab_ok (fun K hk => hk)) rfl ?_
    refine reg_new (step_C tab_ok (fun K hk => hk)) rfl ?_
    refine reg_quiet rfl (step_C tab_ok (fun K hk => hk)) ?_
    refine reg_nil ?_
    refine seq_n ?_
    refine wc_seq ?_
    refine wc_seq ?_
    refine wc_region ?_
    refine reg_quiet rfl (step_C tab_ok (fun K hk => hk)) ?_
    refine reg_quiet rfl (load_box tab_ok rfl rfl rfl rfl) ?_
    refine reg_quiet rfl (step_C tab_ok (fun K hk => hk)) ?_
    refine reg_quiet rfl (load_box tab_ok rfl rfl rfl rfl) ?_
    refine reg_quiet rfl (call_r (refsame_is a c hla hlc) rfl rfl (arg_ownL rfl rfl (arg_ownL rfl rfl arg_nil)) (.inr (bool_plain _)) (fun _ => rfl)) ?_
    refine reg_quiet rfl (step_C tab_ok (fun K hk => hk)) ?_
    refine reg_quiet rfl (step_C tab_ok (fun K hk => hk)) ?_
    refine reg_skip rfl rfl (by assumption) rfl rfl ?_
    refine reg_skip rfl rfl (by assumption) rfl rfl ?_
    refine reg_skip rfl rfl (by assumption) rfl rfl ?_
    refine reg_skip rfl rfl (by assumption) rfl rfl ?_
    refine reg_skip rfl rfl (by assumption) rfl rfl ?_
    refine reg_skip rfl rfl (by assumption) rfl rfl ?_
    refine reg_quiet rfl (pick_T tab_ok rfl (by assumption) rfl) ?_
    refine reg_quiet rfl (step_C tab_ok (fun K hk => hk)) ?_
    refine reg_skip rfl rfl rfl rfl rfl ?_
    refine reg_skip rfl rfl rfl rfl rfl ?_
    refine reg_skip rfl rfl rfl rfl rfl ?_
    refine reg_skip rfl rfl rfl rfl rfl ?_
    refine reg_skip rfl rfl rfl rfl rfl ?_
    refine reg_skip rfl rfl rfl rfl rfl ?_
    refine reg_skip rfl rfl rfl rfl rfl ?_
    refine reg_quiet rfl (pick_T tab_ok rfl rfl rfl) ?_
    refine reg_quiet rfl (step_C tab_ok (fun K hk => hk)) ?_
    refine reg_skip rfl rfl rfl rfl rfl ?_
    refine reg_skip rfl rfl rfl rfl rfl ?_
    refine reg_skip rfl rfl rfl rfl rfl ?_
    refine reg_skip rfl rfl rfl rfl rfl ?_
    refine reg_skip rfl rfl rfl rfl rfl ?_
    refine reg_skip rfl rfl rfl rfl rfl ?_
    refine reg_skip rfl rfl rfl rfl rfl ?_
    refine reg_quiet rfl (pick_T tab_ok rfl rfl rfl) ?_
    refine reg_nil ?_
    refine seq_n ?_
    refine wc_true rfl rfl ?_
    refine wc_seq ?_
    refine wc_region ?_
    refine reg_quiet rfl (step_C tab_ok (fun K hk => hk)) ?_
    refine reg_nil ?_
    refine seq_n ?_
    refine wc_ret ?_
    refine seq_r ?_
    exact ⟨trivial, [], .of rfl rfl rfl rfl rfl ⟨⟨_, rfl, AVLe.of_eq rfl⟩, rfl, trivial⟩ ⟨⟨rfl, rfl, _, rfl, .refl _⟩, ⟨rfl, rfl, _, rfl, .refl _⟩, ⟨rfl, rfl, _, rfl, .refl _⟩, ⟨rfl, rfl, _, rfl, .refl _⟩, trivial⟩⟩
  | true =>
    have h1' : (!decide (a = c)) = false := by rw [h1]; rfl
    cases h2 : decide (b = d) with
    | false =>
      have h2' : (!decide (b = d)) = true := by rw [h2]; rfl
      refine fnIs_of tab_ok Try.func16 rfl rfl rfl ?_
      refine wc_seq ?_
      refine wc_region ?_
      refine reg_new (step_C tab_ok (fun K hk => hk)) rfl ?_
      refine reg_new (step_C tab_ok (fun K hk => hk)) rfl ?_
      refine reg_quiet rfl (step_C tab_ok (fun K hk => hk)) ?_
      refine reg_nil ?_
      refine seq_n ?_
      refine wc_seq ?_
      refine wc_seq ?_
      refine wc_region ?_
      refine reg_quiet rfl (step_C tab_ok (fun K hk => hk)) ?_
      refine reg_quiet rfl (load_box tab_ok rfl rfl rfl rfl) ?_
      refine reg_quiet rfl (step_C tab_ok (fun K hk => hk)) ?_
      refine reg_quiet rfl (load_box tab_ok rfl rfl rfl rfl) ?_
      refine reg_quiet rfl (call_r (refsame_is a c hla hlc) rfl rfl (arg_ownL rfl rfl (arg_ownL rfl rfl arg_nil)) (.inr (bool_plain _)) (fun _ => rfl)) ?_
      refine reg_quiet rfl (step_C tab_ok (fun K hk => hk)) ?_
      refine reg_quiet rfl (step_C tab_ok (fun K hk => hk)) ?_
      refine reg_on rfl rfl (by assumption) ?_
      refine reg_quiet rfl (step_C tab_ok (fun K hk => hk)) ?_
      refine reg_on rfl rfl (by assumption) ?_
      refine reg_quiet rfl (load_box tab_ok rfl rfl rfl rfl) ?_
      refine reg_on rfl rfl (by assumption) ?_
      refine reg_quiet rfl (step_C tab_ok (fun K hk => hk)) ?_
      refine reg_on rfl rfl (by assumption) ?_
      refine reg_quiet rfl (load_box tab_ok rfl rfl rfl rfl) ?_
      refine reg_on rfl rfl (by assumption) ?_
      refine reg_quiet rfl (call_r (refsame_is b d hlb hld) rfl rfl (arg_ownL rfl rfl (arg_ownL rfl rfl arg_nil)) (.inr (bool_plain _)) (fun _ => rfl)) ?_
      refine reg_on rfl rfl (by assumption) ?_
      refine reg_quiet rfl (step_C tab_ok (fun K hk => hk)) ?_
      refine reg_quiet rfl (pick_F tab_ok rfl (by assumption) rfl) ?_
      refine reg_quiet rfl (step_C tab_ok (fun K hk => hk)) ?_
      refine reg_skip rfl rfl (by assumption) rfl rfl ?_
      refine reg_skip rfl rfl (by assumption) rfl rfl ?_
      refine reg_skip rfl rfl (by assumption) rfl rfl ?_
      refine reg_skip rfl rfl (by assumption) rfl rfl ?_
      refine reg_skip rfl rfl (by assumption) rfl rfl ?_
      refine reg_skip rfl rfl (by assumption) rfl rfl ?_
      refine reg_skip rfl rfl (by assumption) rfl rfl ?_
      refine reg_quiet rfl (pick_T tab_ok rfl (by assumption) rfl) ?_
      refine reg_quiet rfl (step_C tab_ok (fun K hk => hk)) ?_
      refine reg_skip rfl rfl rfl rfl rfl ?_
      refine reg_skip rfl rfl rfl rfl rfl ?_
      refine reg_skip rfl rfl rfl rfl rfl ?_
      refine reg_skip rfl rfl rfl rfl rfl ?_
      refine reg_skip rfl rfl rfl rfl rfl ?_
      refine reg_skip rfl rfl rfl rfl rfl ?_
      refine reg_skip rfl rfl rfl rfl rfl ?_
      refine reg_quiet rfl (pick_T tab_ok rfl rfl rfl) ?_
      refine reg_nil ?_
      refine seq_n ?_
      refine wc_true rfl rfl ?_
      refine wc_seq ?_
      refine wc_region ?_
      refine reg_quiet rfl (step_C tab_ok (fun K hk => hk)) ?_
      refine reg_nil ?_
      refine seq_n ?_
      refine wc_ret ?_
      refine seq_r ?_
      exact ⟨trivial, [], .of rfl rfl rfl rfl rfl ⟨⟨_, rfl, AVLe.of_eq rfl⟩, rfl, trivial⟩ ⟨⟨rfl, rfl, _, rfl, .refl _⟩, ⟨rfl, rfl, _, rfl, .refl _⟩, ⟨rfl, rfl, _, rfl, .refl _⟩, ⟨rfl, rfl, _, rfl, .refl _⟩, trivial⟩⟩
    | true =>
      have h2' : (!decide (b = d)) = false := by rw [h2]; rfl
      refine fnIs_of tab_ok Try.func16 rfl rfl rfl ?_
      refine wc_seq ?_
      refine wc_region ?_
      refine reg_new (step_C tab_ok (fun K hk => hk)) rfl ?_
      refine reg_new (step_C tab_ok (fun K hk => hk)) rfl ?_
      refine reg_quiet rfl (step_C tab_ok (fun K hk => hk)) ?_
      refine reg_nil ?_
      refine seq_n ?_
      refine wc_seq ?_
      refine wc_seq ?_
      refine wc_region ?_
      refine reg_quiet rfl (step_C tab_ok (fun K hk => hk)) ?_
      refine reg_quiet rfl (load_box tab_ok rfl rfl rfl rfl) ?_
      refine reg_quiet rfl (step_C tab_ok (fun K hk => hk)) ?_
      refine reg_quiet rfl (load_box tab_ok rfl rfl rfl rfl) ?_
      refine reg_quiet rfl (call_r (refsame_is a c hla hlc) rfl rfl (arg_ownL rfl rfl (arg_ownL rfl rfl arg_nil)) (.inr (bool_plain _)) (fun _ => rfl)) ?_
      refine reg_quiet rfl (step_C tab_ok (fun K hk => hk)) ?_
      refine reg_quiet rfl (step_C tab_ok (fun K hk => hk)) ?_
      refine reg_on rfl rfl (by assumption) ?_
      refine reg_quiet rfl (step_C tab_ok (fun K hk => hk)) ?_
      refine reg_on rfl rfl (by assumption) ?_
      refine reg_quiet rfl (load_box tab_ok rfl rfl rfl rfl) ?_
      refine reg_on rfl rfl (by assumption) ?_
      refine reg_quiet rfl (step_C tab_ok (fun K hk => hk)) ?_
      refine reg_on rfl rfl (by assumption) ?_
      refine reg_quiet rfl (load_box tab_ok rfl rfl rfl rfl) ?_
      refine reg_on rfl rfl (by assumption) ?_
      refine reg_quiet rfl (call_r (refsame_is b d hlb hld) rfl rfl (arg_ownL rfl rfl (arg_ownL rfl rfl arg_nil)) (.inr (bool_plain _)) (fun _ => rfl)) ?_
      refine reg_on rfl rfl (by assumption) ?_
      refine reg_quiet rfl (step_C tab_ok (fun K hk => hk)) ?_
      refine reg_quiet rfl (pick_F tab_ok rfl (by assumption) rfl) ?_
      refine reg_quiet rfl (step_C tab_ok (fun K hk => hk)) ?_
      refine reg_on rfl rfl (by assumption) ?_
      refine reg_quiet rfl (step_C tab_ok (fun K hk => hk)) ?_
      refine reg_on rfl rfl (by assumption) ?_
      refine reg_quiet rfl (load_box tab_ok rfl rfl rfl rfl) ?_
      refine reg_on rfl rfl (by assumption) ?_
      refine reg_quiet rfl (cap_own tab_ok rfl rfl) ?_
      refine reg_on rfl rfl (by assumption) ?_
      refine reg_quiet rfl (step_C tab_ok (fun K hk => hk)) ?_
      refine reg_on rfl rfl (by assumption) ?_
      refine reg_quiet rfl (load_box tab_ok rfl rfl rfl rfl) ?_
      refine reg_on rfl rfl (by assumption) ?_
      refine reg_quiet rfl (len_own tab_ok rfl rfl) ?_
      refine reg_on rfl rfl (by assumption) ?_
      refine reg_quiet rfl (step_C tab_ok (fun K hk => hk)) ?_
      refine reg_quiet rfl (pick_F tab_ok rfl (by assumption) rfl) ?_
      refine reg_quiet rfl (step_C tab_ok (fun K hk => hk)) ?_
      refine reg_on rfl rfl (by assumption) ?_
      refine reg_quiet rfl (step_C tab_ok (fun K hk => hk)) ?_
      refine reg_on rfl rfl (by assumption) ?_
      refine reg_quiet rfl (load_box tab_ok rfl rfl rfl rfl) ?_
      refine reg_on rfl rfl (by assumption) ?_
      refine reg_quiet rfl (cap_own tab_ok rfl rfl) ?_
      refine reg_on rfl rfl (by assumption) ?_
      refine reg_quiet rfl (step_C tab_ok (fun K hk => hk)) ?_
      refine reg_on rfl rfl (by assumption) ?_
      refine reg_quiet rfl (load_box tab_ok rfl rfl rfl rfl) ?_
      refine reg_on rfl rfl (by assumption) ?_
      refine reg_quiet rfl (len_own tab_ok rfl rfl) ?_
      refine reg_on rfl rfl (by assumption) ?_
      refine reg_quiet rfl (step_C tab_ok (fun K hk => hk)) ?_
      refine reg_quiet rfl (pick_F tab_ok rfl (by assumption) rfl) ?_
      refine reg_nil ?_
      refine seq_n ?_
      refine wc_false rfl (by assumption) ?_
      refine wc_skip ?_
      refine seq_n ?_
      refine wc_seq ?_
      refine wc_region ?_
      refine reg_quiet rfl (step_C tab_ok (fun K hk => hk)) ?_
      refine reg_nil ?_
      refine seq_n ?_
      refine wc_ret ?_
      exact ⟨trivial, [], .of rfl rfl rfl rfl rfl ⟨⟨_, rfl, AVLe.of_eq rfl⟩, rfl, trivial⟩ ⟨⟨rfl, rfl, _, rfl, .refl _⟩, ⟨rfl, rfl, _, rfl, .refl _⟩, ⟨rfl, rfl, _, rfl, .refl _⟩, ⟨rfl, rfl, _, rfl, .refl _⟩, trivial⟩⟩
theorem lawsame_none (a b c d : Blks) (c1 c2 : Option Nat) (e3 e4 : Bool) (hla : a.length ≤ 1000000) (hlb : b.length ≤ 1000000) (hlc : c.length ≤ 1000000) (hld : d.length ≤ 1000000) : FnIs Try.prog 16 [ownA 0 a.length none 1 b.length none, ownA 2 c.length c1 3 d.length c2] (sameRows a b c d true true e3 e4) (.int .i64 (if (decide (a = c) && decide (b = d)) = true then 1 else 0)) (sameRows a b c d true true e3 e4) := by
  have n1 : (!decide ((a.length : Int) = a.length)) = false := by simp
  have n2 : (!decide ((b.length : Int) = b.length)) = false := by simp
  cases h1 : decide (a = c) with
  | false =>
    have h1' : (!decide (a = c)) = true := by rw [h1]; rfl
    refine fnIs_of tab_ok Try.func16 rfl rfl rfl ?_
    refine wc_seq ?_
    refine wc_region ?_
    refine reg_new (step_C tab_ok (fun K hk => hk)) rfl ?_
    refine reg_new (step_C tab_ok (fun K hk => hk)) rfl ?_
    refine reg_quiet rfl (step_C tab_ok (fun K hk => hk)) ?_
    refine reg_nil ?_
    refine seq_n ?_
    refine wc_seq ?_
    refine wc_seq ?_
    refine wc_region ?_
    refine reg_quiet rfl (step_C tab_ok (fun K hk => hk)) ?_
    refine reg_quiet rfl (load_box tab_ok rfl rfl rfl rfl) ?_
    refine reg_quiet rfl (step_C tab_ok (fun K hk => hk)) ?_
    refine reg_quiet rfl (load_box tab_ok rfl rfl rfl rfl) ?_
    refine reg_quiet rfl (call_r (refsame_is a c hla hlc) rfl rfl (arg_ownL rfl rfl (arg_ownL rfl rfl arg_nil)) (.inr (bool_plain _)) (fun _ => rfl)) ?_
    refine reg_quiet rfl (step_C tab_ok (fun K hk => hk)) ?_
    refine reg_quiet rfl (step_C tab_ok (fun K hk => hk)) ?_
    refine reg_skip rfl rfl (by assumption) rfl rfl ?_
    refine reg_skip rfl rfl (by assumption) rfl rfl ?_
    refine reg_skip rfl rfl (by assumption) rfl rfl ?_
    refine reg_skip rfl rfl (by assumption) rfl rfl ?_
    refine reg_skip rfl rfl (by assumption) rfl rfl ?_
    refine reg_skip rfl rfl (by assumption) rfl rfl ?_
    refine reg_quiet rfl (pick_T tab_ok rfl (by assumption) rfl) ?_
    refine reg_quiet rfl (step_C tab_ok (fun K hk => hk)) ?_
    refine reg_skip rfl rfl rfl rfl rfl ?_
    refine reg_skip rfl rfl rfl rfl rfl ?_
    refine reg_skip rfl rfl rfl rfl rfl ?_
    refine reg_skip rfl rfl rfl rfl rfl ?_
    refine reg_skip rfl rfl rfl rfl rfl ?_
    refine reg_skip rfl rfl rfl rfl rfl ?_
    refine reg_skip rfl rfl rfl rfl rfl ?_
    refine reg_quiet rfl (pick_T tab_ok rfl rfl rfl) ?_
    refine reg_quiet rfl (step_C tab_ok (fun K hk => hk)) ?_
    refine reg_skip rfl rfl rfl rfl rfl ?_
    refine reg_skip rfl rfl rfl rfl rfl ?_
    refine reg_skip rfl rfl rfl rfl rfl ?_
    refine reg_skip rfl rfl rfl rfl rfl ?_
    refine reg_skip rfl rfl rfl rfl rfl ?_
    refine reg_skip rfl rfl rfl rfl rfl ?_
    refine reg_skip rfl rfl rfl rfl rfl ?_
    refine reg_quiet rfl (pick_T tab_ok rfl rfl rfl) ?_
    refine reg_nil ?_
    refine seq_n ?_
    refine wc_true rfl rfl ?_
    refine wc_seq ?_
    refine wc_region ?_
    refine reg_quiet rfl (step_C tab_ok (fun K hk => hk)) ?_
    refine reg_nil ?_
    refine seq_n ?_
    refine wc_ret ?_
    refine seq_r ?_
    exact ⟨trivial, [], .of rfl rfl rfl rfl rfl ⟨⟨_, rfl, AVLe.of_eq rfl⟩, rfl, trivial⟩ ⟨⟨rfl, rfl, _, rfl, .refl _⟩, ⟨rfl, rfl, _, rfl, .refl _⟩, ⟨rfl, rfl, _, rfl, .refl _⟩, ⟨rfl, rfl, _, rfl, .refl _⟩, trivial⟩⟩
  | true =>
    have h1' : (!decide (a = c)) = false := by rw [h1]; rfl
    cases h2 : decide (b = d) with
    | false =>
      have h2' : (!decide (b = d)) = true := by rw [h2]; rfl
      refine fnIs_of tab_ok Try.func16 rfl rfl rfl ?_
      refine wc_seq ?_
      refine wc_region ?_
      refine reg_new (step_C tab_ok (fun K hk => hk)) rfl ?_
      refine reg_new (step_C tab_ok (fun K hk => hk)) rfl ?_
      refine reg_quiet rfl (step_C tab_ok (fun K hk => hk)) ?_
      refine reg_nil ?_
      refine seq_n ?_
      refine wc_seq ?_
      refine wc_seq ?_
      refine wc_region ?_
      refine reg_quiet rfl (step_C tab_ok (fun K hk => hk)) ?_
      refine reg_quiet rfl (load_box tab_ok rfl rfl rfl rfl) ?_
      refine reg_quiet rfl (step_C tab_ok (fun K hk => hk)) ?_
      refine reg_quiet rfl (load_box tab_ok rfl rfl rfl rfl) ?_
      refine reg_quiet rfl (call_r (refsame_is a c hla hlc) rfl rfl (arg_ownL rfl rfl (arg_ownL rfl rfl arg_nil)) (.inr (bool_plain _)) (fun _ => rfl)) ?_
      refine reg_quiet rfl (step_C tab_ok (fun K hk => hk)) ?_
      refine reg_quiet rfl (step_C tab_ok (fun K hk => hk)) ?_
      refine reg_on rfl rfl (by assumption) ?_
      refine reg_quiet rfl (step_C tab_ok (fun K hk => hk)) ?_
      refine reg_on rfl rfl (by assumption) ?_
      refine reg_quiet rfl (load_box tab_ok rfl rfl rfl rfl) ?_
      refine reg_on rfl rfl (by assumption) ?_
      refine reg_quiet rfl (step_C tab_ok (fun K hk => hk)) ?_
      refine reg_on rfl rfl (by assumption) ?_
      refine reg_quiet rfl (load_box tab_ok rfl rfl rfl rfl) ?_
      refine reg_on rfl rfl (by assumption) ?_
      refine reg_quiet rfl (call_r (refsame_is b d hlb hld) rfl rfl (arg_ownL rfl rfl (arg_ownL rfl rfl arg_nil)) (.inr (bool_plain _)) (fun _ => rfl)) ?_
      refine reg_on rfl rfl (by assumption) ?_
      refine reg_quiet rfl (step_C tab_ok (fun K hk => hk)) ?_
      refine reg_quiet rfl (pick_F tab_ok rfl (by assumption) rfl) ?_
      refine reg_quiet rfl (step_C tab_ok (fun K hk => hk)) ?_
      refine reg_skip rfl rfl (by assumption) rfl rfl ?_
      refine reg_skip rfl rfl (by assumption) rfl rfl ?_
      refine reg_skip rfl rfl (by assumption) rfl rfl ?_
      refine reg_skip rfl rfl (by assumption) rfl rfl ?_
      refine reg_skip rfl rfl (by assumption) rfl rfl ?_
      refine reg_skip rfl rfl (by assumption) rfl rfl ?_
      refine reg_skip rfl rfl (by assumption) rfl rfl ?_
      refine reg_quiet rfl (pick_T tab_ok rfl (by assumption) rfl) ?_
      refine reg_quiet rfl (step_C tab_ok (fun K hk => hk)) ?_
      refine reg_skip rfl rfl rfl rfl rfl ?_
      refine reg_skip rfl rfl rfl rfl rfl ?_
      refine reg_skip rfl rfl rfl rfl rfl ?_
      refine reg_skip rfl rfl rfl rfl rfl ?_
      refine reg_skip rfl rfl rfl rfl rfl ?_
      refine reg_skip rfl rfl rfl rfl rfl ?_
      refine reg_skip rfl rfl rfl rfl rfl ?_
      refine reg_quiet rfl (pick_T tab_ok rfl rfl rfl) ?_
      refine reg_nil ?_
      refine seq_n ?_
      refine wc_true rfl rfl ?_
      refine wc_seq ?_
      refine wc_region ?_
      refine reg_quiet rfl (step_C tab_ok (fun K hk => hk)) ?_
      refine reg_nil ?_
      refine seq_n ?_
      refine wc_ret ?_
      refine seq_r ?_
      exact ⟨trivial, [], .of rfl rfl rfl rfl rfl ⟨⟨_, rfl, AVLe.of_eq rfl⟩, rfl, trivial⟩ ⟨⟨rfl, rfl, _, rfl, .refl _⟩, ⟨rfl, rfl, _, rfl, .refl _⟩, ⟨rfl, rfl, _, rfl, .refl _⟩, ⟨rfl, rfl, _, rfl, .refl _⟩, trivial⟩⟩
    | true =>
      have h2' : (!decide (b = d)) = false := by rw [h2]; rfl
      refine fnIs_of tab_ok Try.func16 rfl rfl rfl ?_
      refine wc_seq ?_
      refine wc_region ?_
      refine reg_new (step_C tab_ok (fun K hk => hk)) rfl ?_
      refine reg_new (step_C tab_ok (fun K hk => hk)) rfl ?_
      refine reg_quiet rfl (step_C tab_ok (fun K hk => hk)) ?_
      refine reg_nil ?_
      refine seq_n ?_
      refine wc_seq ?_
      refine wc_seq ?_
      refine wc_region ?_
      refine reg_quiet rfl (step_C tab_ok (fun K hk => hk)) ?_
      refine reg_quiet rfl (load_box tab_ok rfl rfl rfl rfl) ?_
      refine reg_quiet rfl (step_C tab_ok (fun K hk => hk)) ?_
      refine reg_quiet rfl (load_box tab_ok rfl rfl rfl rfl) ?_
      refine reg_quiet rfl (call_r (refsame_is a c hla hlc) rfl rfl (arg_ownL rfl rfl (arg_ownL rfl rfl arg_nil)) (.inr (bool_plain _)) (fun _ => rfl)) ?_
      refine reg_quiet rfl (step_C tab_ok (fun K hk => hk)) ?_
      refine reg_quiet rfl (step_C tab_ok (fun K hk => hk)) ?_
      refine reg_on rfl rfl (by assumption) ?_
      refine reg_quiet rfl (step_C tab_ok (fun K hk => hk)) ?_
      refine reg_on rfl rfl (by assumption) ?_
      refine reg_quiet rfl (load_box tab_ok rfl rfl rfl rfl) ?_
      refine reg_on rfl rfl (by assumption) ?_
      refine reg_quiet rfl (step_C tab_ok (fun K hk => hk)) ?_
      refine reg_on rfl rfl (by assumption) ?_
      refine reg_quiet rfl (load_box tab_ok rfl rfl rfl rfl) ?_
      refine reg_on rfl rfl (by assumption) ?_
      refine reg_quiet rfl (call_r (refsame_is b d hlb hld) rfl rfl (arg_ownL rfl rfl (arg_ownL rfl rfl arg_nil)) (.inr (bool_plain _)) (fun _ => rfl)) ?_
      refine reg_on rfl rfl (by assumption) ?_
      refine reg_quiet rfl (step_C tab_ok (fun K hk => hk)) ?_
      refine reg_quiet rfl (pick_F tab_ok rfl (by assumption) rfl) ?_
      refine reg_quiet rfl (step_C tab_ok (fun K hk => hk)) ?_
      refine reg_on rfl rfl (by assumption) ?_
      refine reg_quiet rfl (step_C tab_ok (fun K hk => hk)) ?_
      refine reg_on rfl rfl (by assumption) ?_
      refine reg_quiet rfl (load_box tab_ok rfl rfl rfl rfl) ?_
      refine reg_on rfl rfl (by assumption) ?_
      refine reg_quiet rfl (cap_exact tab_ok rfl rfl rfl) ?_
      refine reg_on rfl rfl (by assumption) ?_
      refine reg_quiet rfl (step_C tab_ok (fun K hk => hk)) ?_
      refine reg_on rfl rfl (by assumption) ?_
      refine reg_quiet rfl (load_box tab_ok rfl rfl rfl rfl) ?_
      refine reg_on rfl rfl (by assumption) ?_
      refine reg_quiet rfl (len_own tab_ok rfl rfl) ?_
      refine reg_on rfl rfl (by assumption) ?_
      refine reg_quiet rfl (step_C tab_ok (fun K hk => hk)) ?_
      refine reg_quiet rfl (pick_F tab_ok rfl (by assumption) rfl) ?_
      refine reg_quiet rfl (step_C tab_ok (fun K hk => hk)) ?_
      refine reg_on rfl rfl (by assumption) ?_
      refine reg_quiet rfl (step_C tab_ok (fun K hk => hk)) ?_
      refine reg_on rfl rfl (by assumption) ?_
      refine reg_quiet rfl (load_box tab_ok rfl rfl rfl rfl) ?_
      refine reg_on rfl rfl (by assumption) ?_
      refine reg_quiet rfl (cap_exact tab_ok rfl rfl rfl) ?_
      refine reg_on rfl rfl (by assumption) ?_
      refine reg_quiet rfl (step_C tab_ok (fun K hk => hk)) ?_
      refine reg_on rfl rfl (by assumption) ?_
      refine reg_quiet rfl (load_box tab_ok rfl rfl rfl rfl) ?_
      refine reg_on rfl rfl (by assumption) ?_
      refine reg_quiet rfl (len_own tab_ok rfl rfl) ?_
      refine reg_on rfl rfl (by assumption) ?_
      refine reg_quiet rfl (step_C tab_ok (fun K hk => hk)) ?_
      refine reg_quiet rfl (pick_F tab_ok rfl (by assumption) rfl) ?_
      refine reg_nil ?_
      refine seq_n ?_
      refine wc_false rfl (by assumption) ?_
      refine wc_skip ?_
      refine seq_n ?_
      refine wc_seq ?_
      refine wc_region ?_
      refine reg_quiet rfl (step_C tab_ok (fun K hk => hk)) ?_
      refine reg_nil ?_
      refine seq_n ?_
      refine wc_ret ?_
      exact ⟨trivial, [], .of rfl rfl rfl rfl rfl ⟨⟨_, rfl, AVLe.of_eq rfl⟩, rfl, trivial⟩ ⟨⟨rfl, rfl, _, rfl, .refl _⟩, ⟨rfl, rfl, _, rfl, .refl _⟩, ⟨rfl, rfl, _, rfl, .refl _⟩, ⟨rfl, rfl, _, rfl, .refl _⟩, trivial⟩⟩
theorem array_is (a b : Blks) (hla : 0 < a.length) (hla2 : a.length ≤ 1048576) (hlb : 0 < b.length) (hlb2 : b.length ≤ 1048576) : FnIs Try.prog 24 [.d (encA a b)] [] (ownR a b) [(64, rowB false a), (65, rowB false b)] := by
  refine fnIs_of tab_ok Try.func24 rfl rfl rfl ?_
  refine wc_seq ?_
  refine wc_region ?_
  refine reg_new (step_C tab_ok (fun K hk => hk)) rfl ?_
  refine reg_new (step_C tab_ok (fun K hk => hk)) rfl ?_
  refine reg_nil ?_
  refine seq_n ?_
  refine wc_seq ?_
  refine wc_region ?_
  refine reg_quiet rfl (load_box tab_ok rfl rfl rfl rfl) ?_
  refine reg_new2 (call_new (refcopy_is a b hla hla2 hlb hlb2) rfl rfl (arg_e arg_nil) (.inl rfl) rfl rfl) rfl ?_
  refine reg_new (step_C tab_ok (fun K hk => hk)) rfl ?_
  refine reg_store (store_row tab_ok rfl rfl rfl ⟨_, ⟨rfl, rfl, rfl⟩, rfl⟩ rfl) ?_
  refine reg_nil ?_
  refine seq_n ?_
  refine wc_seq ?_
  refine wc_draw (by kernel_rfl) ?_
  refine dreg_q [3] [96, 88, 89] rfl (step_C tab_ok (fun K hk => hk)) ?_
  refine dreg_q [6] [96, 88, 89] rfl (load_box tab_ok rfl rfl rfl rfl) ?_
  refine dreg_q [3] [96, 88, 89] rfl (step_C tab_ok (fun K hk => hk)) ?_
  refine dreg_q [8] [96, 88, 89] rfl (load_box tab_ok rfl rfl rfl rfl) ?_
  refine dreg_q [9] [88] rfl (len_own tab_ok rfl rfl) ?_
  refine dreg_q [3] [96, 88, 89] rfl (step_C tab_ok (fun K hk => hk)) ?_
  refine dreg_q [11] [96, 88, 89] rfl (load_box tab_ok rfl rfl rfl rfl) ?_
  refine dreg_q [12] [88] rfl (len_own tab_ok rfl rfl) ?_
  refine dreg_q [7, 10, 13] [88] rfl (slice_clip tab_ok rfl rfl rfl rfl rfl) ?_
  refine dreg_q [3] [96, 88, 89] rfl (step_C tab_ok (fun K hk => hk)) ?_
  refine dreg_q [15] [96, 88, 89] rfl (load_box tab_ok rfl rfl rfl rfl) ?_
  refine dreg_q [3] [96, 88, 89] rfl (step_C tab_ok (fun K hk => hk)) ?_
  refine dreg_q [17] [96, 88, 89] rfl (load_box tab_ok rfl rfl rfl rfl) ?_
  refine dreg_q [18] [89] rfl (len_own tab_ok rfl rfl) ?_
  refine dreg_q [3] [96, 88, 89] rfl (step_C tab_ok (fun K hk => hk)) ?_
  refine dreg_q [20] [96, 88, 89] rfl (load_box tab_ok rfl rfl rfl rfl) ?_
  refine dreg_q [21] [89] rfl (len_own tab_ok rfl rfl) ?_
  refine dreg_q [16, 19, 22] [89] rfl (slice_clip tab_ok rfl rfl rfl rfl rfl) ?_
  refine dreg_q [14, 23] [88, 89] rfl (build_struct tab_ok rfl rfl rfl rfl) ?_
  refine dreg_s [2, 24] [72, 88, 89] (store_row tab_ok rfl rfl rfl ⟨_, ⟨rfl, rfl, rfl⟩, rfl⟩ rfl) ?_
  refine dreg_end (by kernel_rfl) ?_
  refine seq_n ?_
  refine wc_ret ?_
  exact ⟨trivial, _, rfl, [(64, some 88), (65, some 89)], .of rfl rfl rfl rfl rfl ⟨⟨_, rfl, AVLe.of_eq rfl⟩, rfl, trivial⟩ ⟨⟨rfl, rfl, _, rfl, .refl _⟩, ⟨rfl, rfl, _, rfl, .refl _⟩, trivial⟩⟩
theorem clipI_is (l : List Int) (n : Nat) (ex : Bool) : FnIs Try.prog 58 [.own 0 0 n 1 none] [(0, .ds 3 1 ex i6 l)] (.own 0 0 n 1 (some n)) [(0, .ds 3 1 ex i6 l)] := by
  refine fnIs_of tab_ok Try.func58 rfl rfl rfl ?_
  refine wc_seq ?_
  refine wc_region ?_
  refine reg_quiet rfl (step_C tab_ok (fun K hk => hk)) ?_
  refine reg_nil ?_
  refine seq_n ?_
  refine wc_seq ?_
  refine wc_region ?_
  refine reg_quiet rfl (step_C tab_ok (fun K hk => hk)) ?_
  refine reg_quiet rfl (step_C tab_ok (fun K hk => hk)) ?_
  refine reg_quiet rfl (len_own tab_ok rfl rfl) ?_
  refine reg_quiet rfl (step_C tab_ok (fun K hk => hk)) ?_
  refine reg_quiet rfl (len_own tab_ok rfl rfl) ?_
  refine reg_quiet rfl (slice_clip tab_ok rfl rfl rfl rfl rfl) ?_
  refine reg_quiet rfl (step_C tab_ok (fun K hk => hk)) ?_
  refine reg_nil ?_
  refine seq_n ?_
  refine wc_ret ?_
  exact ⟨trivial, [], .of rfl rfl rfl rfl rfl ⟨⟨_, rfl, AVLe.of_eq rfl⟩, rfl, trivial⟩ ⟨⟨rfl, rfl, _, rfl, .refl _⟩, trivial⟩⟩
end Go.Proofs.Ytjpjchohpjbknaa

/- Arrays: the law's operations. -/
namespace Go.Proofs.Ytjpjchohpjbknaa
open Go.Eng
set_option maxHeartbeats 2000000
set_option maxRecDepth 4000
attribute [local irreducible] WC RegS RegD SeqQ BlkQ ScoQ RegK CutK Sat SatN FnIs LoopQ StepIs OpIs
abbrev encT (l : List Int) : D := .vec 3 1 encU8 l
def badOps (n i m : Int) (b : List Int) : Oper := if m = 0 then ⟨1, n, []⟩ else if m = 1 then ⟨2, -1, b⟩ else if m = 2 then ⟨2, i, b.take 31⟩ else if m = 3 then ⟨0, 0, []⟩ else if m = 4 then ⟨4, 0, []⟩ else ⟨2, i, b ++ [0]⟩
def opOf (n z0 z1 z2 : Int) : Oper :=
  if z0.tmod 16 < 6 then ⟨1, z1.tmod n, []⟩ else if z0.tmod 16 < 13 then ⟨2, z1.tmod n, plainB z2⟩ else if z0.tmod 16 < 15 then ⟨3, 0, []⟩ else badOps n (z1.tmod n) (z1.tmod 6) (plainB z2)
theorem AVLe.data {x y : D} (h : DLe x y) (hg : x.isAgg = y.isAgg) : AVLe (.d x) (.d y) := by
  intro σ w X u hu
  unfold RelV at hu ⊢
  by_cases hy : y.isAgg = true
  · rw [if_pos (show (AV.d x).isAgg = true from hg.trans hy)] at hu
    rw [if_pos (show (AV.d y).isAgg = true from hy)]
    obtain ⟨c, rfl, hc⟩ := hu
    exact ⟨c, rfl, h _ _ _ hc⟩
  · rw [if_neg (show ¬ (AV.d x).isAgg = true from fun e => hy (hg.symm.trans e))] at hu
    rw [if_neg (show ¬ (AV.d y).isAgg = true from hy)]
    exact h _ _ _ hu
theorem op_nil (k i : Int) : AVLe (.d (.cons (u8s k) (.cons (i6 i) (.cons (.sc nil_) .nil)))) (.d (encOp ⟨k, i, []⟩)) :=
  AVLe.data (DLe.cons (DLe.refl _) (DLe.cons (DLe.refl _) (DLe.cons (DLe.nil_arr 1 encU8) (DLe.refl _)))) rfl
theorem frz_asl (k i : Int) (r t len cap : Nat) (b : List Int) (h1 : len ≤ cap) (h2 : cap ≤ 32) : Frz r (.box t (.d (encBlock b))) (.acons (.d (u8s k)) (.acons (.d (i6 i)) (.acons (.asl r [] len cap) (.d .nil)))) (.d (encOp ⟨k, i, b.take len⟩)) :=
  Frz.dcons (Frz.refl _) (Frz.dcons (Frz.refl _) (Frz.dcons (Frz.asl h1 h2 (by decide)) (Frz.refl _)))
theorem frz_own (k i : Int) (r t len : Nat) (ex : Bool) (cap : Option Nat) (b : List Int) (hl : len = b.length) : Frz r (.ds t 1 ex encU8 b) (.acons (.d (u8s k)) (.acons (.d (i6 i)) (.acons (.own r 0 len 1 cap) (.d .nil)))) (.d (encOp ⟨k, i, b⟩)) :=
  Frz.dcons (Frz.refl _) (Frz.dcons (Frz.refl _) (Frz.dcons (Frz.own hl) (Frz.refl _)))
theorem rem_to {P : Program} {T : Tab} {env : Env} {h : Upds} {n : Nat} (hT : TabOk P T) {x y : Operand} {t t' : TypeId} {k : IntKind} {a b m : Int} (hx : evalA env x = some (.int k a)) (hy : evalA env y = some (.int k b)) (hb : b ≠ 0) (hm : a.tmod b = m) : StepIs P (.binOp .rem t x y t') env h n (some (.int k m)) [] := by
  subst hm
  exact rem_int hT hx hy hb
theorem op_read (n z0 z1 z2 : Int) (b0 : 0 ≤ z0 ∧ z0 ≤ 255) (b1 : 0 ≤ z1 ∧ z1 ≤ 255) (hn : 0 < n) (h : z0.tmod 16 < 6) : FnIs Try.prog 26 [.d (i6 n), .d (encT [z0, z1, z2])] [] (.d (encOp ⟨1, z1.tmod n, []⟩)) [] := by
  have hn0 : n ≠ 0 := by omega
  have d1 : decide (z0.tmod 16 < 6) = true := decide_eq_true h
  refine fnIs_of tab_ok Try.func26 rfl rfl rfl ?_
  refine wc_seq ?_
  refine wc_region ?_
  refine reg_new (step_C tab_ok (fun K hk => hk)) rfl ?_
  refine reg_new (step_C tab_ok (fun K hk => hk)) rfl ?_
  refine reg_nil ?_
  refine seq_n ?_
  refine wc_seq ?_
  refine wc_region ?_
  refine reg_quiet rfl (step_C tab_ok (fun K hk => ⟨by omega, by omega, hk⟩)) ?_
  refine reg_quiet rfl (load_box (v := .int .u8 z2) tab_ok rfl rfl ⟨.sc (.int .u8 z2), ⟨rfl, z2, rfl, rfl⟩, rfl⟩ rfl) ?_
  refine reg_quiet rfl (call_r (plain_is z2) rfl rfl (arg_e arg_nil) (.inl rfl) (fun _ => rfl)) ?_
  refine reg_new (step_C tab_ok (fun K hk => hk)) rfl ?_
  refine reg_store (store_row tab_ok rfl rfl rfl ⟨_, ⟨rfl, rfl, rfl⟩, rfl⟩ rfl) ?_
  refine reg_nil ?_
  refine seq_n ?_
  refine wc_seq ?_
  refine wc_region ?_
  refine reg_quiet rfl (step_C tab_ok (fun K hk => ⟨by omega, by omega, hk⟩)) ?_
  refine reg_quiet rfl (load_box (v := .int .u8 z1) tab_ok rfl rfl ⟨.sc (.int .u8 z1), ⟨rfl, z1, rfl, rfl⟩, rfl⟩ rfl) ?_
  refine reg_quiet rfl (conv_int tab_ok rfl rfl rfl (wrap_i64 (by omega) (by omega))) ?_
  refine reg_quiet rfl (step_C tab_ok (fun K hk => hk)) ?_
  refine reg_quiet rfl (rem_int tab_ok rfl rfl (by omega)) ?_
  refine reg_quiet rfl (step_C tab_ok (fun K hk => hk)) ?_
  refine reg_nil ?_
  refine seq_n ?_
  refine wc_seq ?_
  refine wc_region ?_
  refine reg_quiet rfl (step_C tab_ok (fun K hk => ⟨by omega, by omega, hk⟩)) ?_
  refine reg_quiet rfl (load_box (v := .int .u8 z0) tab_ok rfl rfl ⟨.sc (.int .u8 z0), ⟨rfl, z0, rfl, rfl⟩, rfl⟩ rfl) ?_
  refine reg_quiet rfl (rem_int tab_ok rfl rfl (by omega)) ?_
  refine reg_quiet rfl (step_C tab_ok (fun K hk => hk)) ?_
  refine reg_nil ?_
  refine seq_n ?_
  refine wc_seq ?_
  refine wc_block ?_
  refine wc_seq ?_
  refine wc_region ?_
  refine reg_quiet rfl (step_C tab_ok (fun K hk => hk)) ?_
  refine reg_quiet rfl (step_C tab_ok (fun K hk => hk)) ?_
  refine reg_quiet rfl (step_C tab_ok (fun K hk => hk)) ?_
  refine reg_nil ?_
  refine seq_n ?_
  refine wc_true rfl (by assumption) ?_
  refine wc_seq ?_
  refine wc_region ?_
  refine reg_quiet rfl (step_C tab_ok (fun K hk => hk)) ?_
  refine reg_quiet rfl (build_struct tab_ok rfl rfl rfl rfl) ?_
  refine reg_store (store_row tab_ok rfl rfl rfl ⟨_, ⟨rfl, rfl, rfl⟩, rfl⟩ rfl) ?_
  refine reg_nil ?_
  refine seq_n ?_
  refine wc_ret ?_
  refine blk_r ?_
  refine seq_r ?_
  exact ⟨trivial, _, rfl, [], .of rfl rfl rfl rfl rfl ⟨⟨_, rfl, op_nil _ _⟩, rfl, trivial⟩ trivial⟩
theorem op_write (n z0 z1 z2 : Int) (b0 : 0 ≤ z0 ∧ z0 ≤ 255) (b1 : 0 ≤ z1 ∧ z1 ≤ 255) (hn : 0 < n) (h1 : ¬ z0.tmod 16 < 6) (h2 : z0.tmod 16 < 13) : FnIs Try.prog 26 [.d (i6 n), .d (encT [z0, z1, z2])] [] (.d (encOp ⟨2, z1.tmod n, plainB z2⟩)) [] := by
  have hn0 : n ≠ 0 := by omega
  have d1 : decide (z0.tmod 16 < 6) = false := decide_eq_false h1
  have d2 : decide (z0.tmod 16 < 13) = true := decide_eq_true h2
  refine fnIs_of tab_ok Try.func26 rfl rfl rfl ?_
  refine wc_seq ?_
  refine wc_region ?_
  refine reg_new (step_C tab_ok (fun K hk => hk)) rfl ?_
  refine reg_new (step_C tab_ok (fun K hk => hk)) rfl ?_
  refine reg_nil ?_
  refine seq_n ?_
  refine wc_seq ?_
  refine wc_region ?_
  refine reg_quiet rfl (step_C tab_ok (fun K hk => ⟨by omega, by omega, hk⟩)) ?_
  refine reg_quiet rfl (load_box (v := .int .u8 z2) tab_ok rfl rfl ⟨.sc (.int .u8 z2), ⟨rfl, z2, rfl, rfl⟩, rfl⟩ rfl) ?_
  refine reg_quiet rfl (call_r (plain_is z2) rfl rfl (arg_e arg_nil) (.inl rfl) (fun _ => rfl)) ?_
  refine reg_new (step_C tab_ok (fun K hk => hk)) rfl ?_
  refine reg_store (store_row tab_ok rfl rfl rfl ⟨_, ⟨rfl, rfl, rfl⟩, rfl⟩ rfl) ?_
  refine reg_nil ?_
  refine seq_n ?_
  refine wc_seq ?_
  refine wc_region ?_
  refine reg_quiet rfl (step_C tab_ok (fun K hk => ⟨by omega, by omega, hk⟩)) ?_
  refine reg_quiet rfl (load_box (v := .int .u8 z1) tab_ok rfl rfl ⟨.sc (.int .u8 z1), ⟨rfl, z1, rfl, rfl⟩, rfl⟩ rfl) ?_
  refine reg_quiet rfl (conv_int tab_ok rfl rfl rfl (wrap_i64 (by omega) (by omega))) ?_
  refine reg_quiet rfl (step_C tab_ok (fun K hk => hk)) ?_
  refine reg_quiet rfl (rem_int tab_ok rfl rfl (by omega)) ?_
  refine reg_quiet rfl (step_C tab_ok (fun K hk => hk)) ?_
  refine reg_nil ?_
  refine seq_n ?_
  refine wc_seq ?_
  refine wc_region ?_
  refine reg_quiet rfl (step_C tab_ok (fun K hk => ⟨by omega, by omega, hk⟩)) ?_
  refine reg_quiet rfl (load_box (v := .int .u8 z0) tab_ok rfl rfl ⟨.sc (.int .u8 z0), ⟨rfl, z0, rfl, rfl⟩, rfl⟩ rfl) ?_
  refine reg_quiet rfl (rem_int tab_ok rfl rfl (by omega)) ?_
  refine reg_quiet rfl (step_C tab_ok (fun K hk => hk)) ?_
  refine reg_nil ?_
  refine seq_n ?_
  refine wc_seq ?_
  refine wc_block ?_
  refine wc_seq ?_
  refine wc_region ?_
  refine reg_quiet rfl (step_C tab_ok (fun K hk => hk)) ?_
  refine reg_quiet rfl (step_C tab_ok (fun K hk => hk)) ?_
  refine reg_quiet rfl (step_C tab_ok (fun K hk => hk)) ?_
  refine reg_nil ?_
  refine seq_n ?_
  refine wc_false rfl (by assumption) ?_
  refine wc_seq ?_
  refine wc_region ?_
  refine reg_quiet rfl (step_C tab_ok (fun K hk => hk)) ?_
  refine reg_quiet rfl (step_C tab_ok (fun K hk => hk)) ?_
  refine reg_quiet rfl (step_C tab_ok (fun K hk => hk)) ?_
  refine reg_nil ?_
  refine seq_n ?_
  refine wc_true rfl (by assumption) ?_
  refine wc_seq ?_
  refine wc_region ?_
  refine reg_quiet rfl (step_C tab_ok (fun K hk => hk)) ?_
  refine reg_quiet rfl (slice_ptr tab_ok rfl rfl rfl) ?_
  refine reg_quiet rfl (build_struct tab_ok rfl rfl rfl rfl) ?_
  refine reg_store (store_row tab_ok rfl rfl rfl ⟨_, ⟨rfl, rfl, rfl⟩, rfl⟩ rfl) ?_
  refine reg_nil ?_
  refine seq_n ?_
  refine wc_freeze (env' := [(4, .ptr 72 [])]) (h' := [(72, some (.box 47 (.d (encOp ⟨2, z1.tmod n, (plainB z2).take 32⟩))))]) 104 (.box 41 (.d (encBlock (plainB z2)))) rfl ⟨⟨_, rfl, Frz.refl _⟩, trivial⟩ ⟨⟨rfl, _, rfl, FrzR.box (frz_asl 2 _ 104 41 32 32 (plainB z2) (by decide) (by decide))⟩, trivial⟩ ?_
  refine wc_ret ?_
  refine blk_r ?_
  refine seq_r ?_
  exact ⟨trivial, _, rfl, [], .of rfl rfl rfl rfl rfl ⟨⟨_, rfl, AVLe.of_eq (by rw [List.take_of_length_le (by rw [plain_len]; omega)]; rfl)⟩, rfl, trivial⟩ trivial⟩
theorem op_flush (n z0 z1 z2 : Int) (b0 : 0 ≤ z0 ∧ z0 ≤ 255) (b1 : 0 ≤ z1 ∧ z1 ≤ 255) (hn : 0 < n) (h1 : ¬ z0.tmod 16 < 6) (h2 : ¬ z0.tmod 16 < 13) (h3 : z0.tmod 16 < 15) : FnIs Try.prog 26 [.d (i6 n), .d (encT [z0, z1, z2])] [] (.d (encOp ⟨3, 0, []⟩)) [] := by
  have hn0 : n ≠ 0 := by omega
  have d1 : decide (z0.tmod 16 < 6) = false := decide_eq_false h1
  have d2 : decide (z0.tmod 16 < 13) = false := decide_eq_false h2
  have d3 : decide (z0.tmod 16 < 15) = true := decide_eq_true h3
  refine fnIs_of tab_ok Try.func26 rfl rfl rfl ?_
  refine wc_seq ?_
  refine wc_region ?_
  refine reg_new (step_C tab_ok (fun K hk => hk)) rfl ?_
  refine reg_new (step_C tab_ok (fun K hk => hk)) rfl ?_
  refine reg_nil ?_
  refine seq_n ?_
  refine wc_seq ?_
  refine wc_region ?_
  refine reg_quiet rfl (step_C tab_ok (fun K hk => ⟨by omega, by omega, hk⟩)) ?_
  refine reg_quiet rfl (load_box (v := .int .u8 z2) tab_ok rfl rfl ⟨.sc (.int .u8 z2), ⟨rfl, z2, rfl, rfl⟩, rfl⟩ rfl) ?_
  refine reg_quiet rfl (call_r (plain_is z2) rfl rfl (arg_e arg_nil) (.inl rfl) (fun _ => rfl)) ?_
  refine reg_new (step_C tab_ok (fun K hk => hk)) rfl ?_
  refine reg_store (store_row tab_ok rfl rfl rfl ⟨_, ⟨rfl, rfl, rfl⟩, rfl⟩ rfl) ?_
  refine reg_nil ?_
  refine seq_n ?_
  refine wc_seq ?_
  refine wc_region ?_
  refine reg_quiet rfl (step_C tab_ok (fun K hk => ⟨by omega, by omega, hk⟩)) ?_
  refine reg_quiet rfl (load_box (v := .int .u8 z1) tab_ok rfl rfl ⟨.sc (.int .u8 z1), ⟨rfl, z1, rfl, rfl⟩, rfl⟩ rfl) ?_
  refine reg_quiet rfl (conv_int tab_ok rfl rfl rfl (wrap_i64 (by omega) (by omega))) ?_
  refine reg_quiet rfl (step_C tab_ok (fun K hk => hk)) ?_
  refine reg_quiet rfl (rem_int tab_ok rfl rfl (by omega)) ?_
  refine reg_quiet rfl (step_C tab_ok (fun K hk => hk)) ?_
  refine reg_nil ?_
  refine seq_n ?_
  refine wc_seq ?_
  refine wc_region ?_
  refine reg_quiet rfl (step_C tab_ok (fun K hk => ⟨by omega, by omega, hk⟩)) ?_
  refine reg_quiet rfl (load_box (v := .int .u8 z0) tab_ok rfl rfl ⟨.sc (.int .u8 z0), ⟨rfl, z0, rfl, rfl⟩, rfl⟩ rfl) ?_
  refine reg_quiet rfl (rem_int tab_ok rfl rfl (by omega)) ?_
  refine reg_quiet rfl (step_C tab_ok (fun K hk => hk)) ?_
  refine reg_nil ?_
  refine seq_n ?_
  refine wc_seq ?_
  refine wc_block ?_
  refine wc_seq ?_
  refine wc_region ?_
  refine reg_quiet rfl (step_C tab_ok (fun K hk => hk)) ?_
  refine reg_quiet rfl (step_C tab_ok (fun K hk => hk)) ?_
  refine reg_quiet rfl (step_C tab_ok (fun K hk => hk)) ?_
  refine reg_nil ?_
  refine seq_n ?_
  refine wc_false rfl (by assumption) ?_
  refine wc_seq ?_
  refine wc_region ?_
  refine reg_quiet rfl (step_C tab_ok (fun K hk => hk)) ?_
  refine reg_quiet rfl (step_C tab_ok (fun K hk => hk)) ?_
  refine reg_quiet rfl (step_C tab_ok (fun K hk => hk)) ?_
  refine reg_nil ?_
  refine seq_n ?_
  refine wc_false rfl (by assumption) ?_
  refine wc_seq ?_
  refine wc_region ?_
  refine reg_quiet rfl (step_C tab_ok (fun K hk => hk)) ?_
  refine reg_quiet rfl (step_C tab_ok (fun K hk => hk)) ?_
  refine reg_quiet rfl (step_C tab_ok (fun K hk => hk)) ?_
  refine reg_nil ?_
  refine seq_n ?_
  refine wc_true rfl (by assumption) ?_
  refine wc_seq ?_
  refine wc_region ?_
  refine reg_quiet rfl (build_struct tab_ok rfl rfl rfl rfl) ?_
  refine reg_store (store_row tab_ok rfl rfl rfl ⟨_, ⟨rfl, rfl, rfl⟩, rfl⟩ rfl) ?_
  refine reg_nil ?_
  refine seq_n ?_
  refine wc_ret ?_
  refine blk_r ?_
  refine seq_r ?_
  exact ⟨trivial, _, rfl, [], .of rfl rfl rfl rfl rfl ⟨⟨_, rfl, op_nil _ _⟩, rfl, trivial⟩ trivial⟩
theorem op_bad0 (n z0 z1 z2 : Int) (b0 : 0 ≤ z0 ∧ z0 ≤ 255) (b1 : 0 ≤ z1 ∧ z1 ≤ 255) (hn : 0 < n) (h1 : ¬ z0.tmod 16 < 6) (h2 : ¬ z0.tmod 16 < 13) (h3 : ¬ z0.tmod 16 < 15) (hm : z1.tmod 6 = 0) : FnIs Try.prog 26 [.d (i6 n), .d (encT [z0, z1, z2])] [] (.d (encOp ⟨1, n, []⟩)) [] := by
  have hn0 : n ≠ 0 := by omega
  have d1 : decide (z0.tmod 16 < 6) = false := decide_eq_false h1
  have d2 : decide (z0.tmod 16 < 13) = false := decide_eq_false h2
  have d3 : decide (z0.tmod 16 < 15) = false := decide_eq_false h3
  refine fnIs_of tab_ok Try.func26 rfl rfl rfl ?_
  refine wc_seq ?_
  refine wc_region ?_
  refine reg_new (step_C tab_ok (fun K hk => hk)) rfl ?_
  refine reg_new (step_C tab_ok (fun K hk => hk)) rfl ?_
  refine reg_nil ?_
  refine seq_n ?_
  refine wc_seq ?_
  refine wc_region ?_
  refine reg_quiet rfl (step_C tab_ok (fun K hk => ⟨by omega, by omega, hk⟩)) ?_
  refine reg_quiet rfl (load_box (v := .int .u8 z2) tab_ok rfl rfl ⟨.sc (.int .u8 z2), ⟨rfl, z2, rfl, rfl⟩, rfl⟩ rfl) ?_
  refine reg_quiet rfl (call_r (plain_is z2) rfl rfl (arg_e arg_nil) (.inl rfl) (fun _ => rfl)) ?_
  refine reg_new (step_C tab_ok (fun K hk => hk)) rfl ?_
  refine reg_store (store_row tab_ok rfl rfl rfl ⟨_, ⟨rfl, rfl, rfl⟩, rfl⟩ rfl) ?_
  refine reg_nil ?_
  refine seq_n ?_
  refine wc_seq ?_
  refine wc_region ?_
  refine reg_quiet rfl (step_C tab_ok (fun K hk => ⟨by omega, by omega, hk⟩)) ?_
  refine reg_quiet rfl (load_box (v := .int .u8 z1) tab_ok rfl rfl ⟨.sc (.int .u8 z1), ⟨rfl, z1, rfl, rfl⟩, rfl⟩ rfl) ?_
  refine reg_quiet rfl (conv_int tab_ok rfl rfl rfl (wrap_i64 (by omega) (by omega))) ?_
  refine reg_quiet rfl (step_C tab_ok (fun K hk => hk)) ?_
  refine reg_quiet rfl (rem_int tab_ok rfl rfl (by omega)) ?_
  refine reg_quiet rfl (step_C tab_ok (fun K hk => hk)) ?_
  refine reg_nil ?_
  refine seq_n ?_
  refine wc_seq ?_
  refine wc_region ?_
  refine reg_quiet rfl (step_C tab_ok (fun K hk => ⟨by omega, by omega, hk⟩)) ?_
  refine reg_quiet rfl (load_box (v := .int .u8 z0) tab_ok rfl rfl ⟨.sc (.int .u8 z0), ⟨rfl, z0, rfl, rfl⟩, rfl⟩ rfl) ?_
  refine reg_quiet rfl (rem_int tab_ok rfl rfl (by omega)) ?_
  refine reg_quiet rfl (step_C tab_ok (fun K hk => hk)) ?_
  refine reg_nil ?_
  refine seq_n ?_
  refine wc_seq ?_
  refine wc_block ?_
  refine wc_seq ?_
  refine wc_region ?_
  refine reg_quiet rfl (step_C tab_ok (fun K hk => hk)) ?_
  refine reg_quiet rfl (step_C tab_ok (fun K hk => hk)) ?_
  refine reg_quiet rfl (step_C tab_ok (fun K hk => hk)) ?_
  refine reg_nil ?_
  refine seq_n ?_
  refine wc_false rfl (by assumption) ?_
  refine wc_seq ?_
  refine wc_region ?_
  refine reg_quiet rfl (step_C tab_ok (fun K hk => hk)) ?_
  refine reg_quiet rfl (step_C tab_ok (fun K hk => hk)) ?_
  refine reg_quiet rfl (step_C tab_ok (fun K hk => hk)) ?_
  refine reg_nil ?_
  refine seq_n ?_
  refine wc_false rfl (by assumption) ?_
  refine wc_seq ?_
  refine wc_region ?_
  refine reg_quiet rfl (step_C tab_ok (fun K hk => hk)) ?_
  refine reg_quiet rfl (step_C tab_ok (fun K hk => hk)) ?_
  refine reg_quiet rfl (step_C tab_ok (fun K hk => hk)) ?_
  refine reg_nil ?_
  refine seq_n ?_
  refine wc_false rfl (by assumption) ?_
  refine wc_skip ?_
  refine blk_n ?_
  refine seq_n ?_
  refine wc_seq ?_
  refine wc_draw (by kernel_rfl) ?_
  refine dreg_q [0] [] rfl (step_C tab_ok (fun K hk => hk)) ?_
  refine dreg_q [34] [] rfl (build_struct tab_ok rfl rfl rfl rfl) ?_
  refine dreg_q [5] [104] rfl (slice_ptr tab_ok rfl rfl rfl) ?_
  refine dreg_q [36] [104] rfl (build_struct tab_ok rfl rfl rfl rfl) ?_
  refine dreg_q [6] [] rfl (step_C tab_ok (fun K hk => hk)) ?_
  refine dreg_q [5] [104] rfl (slice_ptr_to (m := 31) tab_ok rfl rfl rfl rfl (by decide)) ?_
  refine dreg_q [38, 39] [104] rfl (build_struct tab_ok rfl rfl rfl rfl) ?_
  refine dreg_q [] [] rfl (build_struct tab_ok rfl rfl rfl rfl) ?_
  refine dreg_q [] [] rfl (build_struct tab_ok rfl rfl rfl rfl) ?_
  refine dreg_q [6] [] rfl (step_C tab_ok (fun K hk => hk)) ?_
  refine dreg_q [5] [104] rfl (slice_ptr tab_ok rfl rfl rfl) ?_
  refine dreg_w [] [] rfl (build_slice tab_ok rfl rfl rfl rfl rfl rfl rfl rfl) ?_
  refine dreg_w [44, 45] [104, 360] rfl (append_asl_one (enc := encU8) (s := 1) (xs := plainB z2) tab_ok 0 rfl rfl rfl rfl rfl rfl rfl rfl rfl (by decide) rfl) ?_
  refine dreg_q [43, 46] [368] rfl (build_struct tab_ok rfl rfl rfl rfl) ?_
  refine dreg_w [35, 37, 40, 41, 42, 47] [104, 368] rfl (build_slice tab_ok rfl rfl rfl rfl rfl rfl rfl rfl) ?_
  refine dreg_q [3] [64] rfl (step_C tab_ok (fun K hk => ⟨by omega, by omega, hk⟩)) ?_
  refine dreg_q [49] [64] rfl (load_box (v := .int .u8 z1) tab_ok rfl rfl ⟨.sc (.int .u8 z1), ⟨rfl, z1, rfl, rfl⟩, rfl⟩ rfl) ?_
  refine dreg_q [50] [] rfl (rem_to tab_ok rfl rfl (by omega) hm) ?_
  refine dreg_q [48, 51] [384, 104, 368] rfl (index_own tab_ok rfl rfl rfl rfl rfl (by decide) (by decide)) ?_
  refine dreg_q [52] [384, 104, 368] rfl (load_row tab_ok rfl rfl ⟨rfl, by decide, rfl⟩ rfl) ?_
  refine dreg_s [4, 53] [72] (store_row tab_ok rfl rfl rfl ⟨_, ⟨rfl, rfl, rfl⟩, rfl⟩ rfl) ?_
  refine dreg_end (by kernel_rfl) ?_
  refine seq_n ?_
  refine wc_ret ?_
  skip
  exact ⟨trivial, _, rfl, [], .of rfl rfl rfl rfl rfl ⟨⟨_, rfl, op_nil _ _⟩, rfl, trivial⟩ trivial⟩
theorem op_bad1 (n z0 z1 z2 : Int) (b0 : 0 ≤ z0 ∧ z0 ≤ 255) (b1 : 0 ≤ z1 ∧ z1 ≤ 255) (hn : 0 < n) (h1 : ¬ z0.tmod 16 < 6) (h2 : ¬ z0.tmod 16 < 13) (h3 : ¬ z0.tmod 16 < 15) (hm : z1.tmod 6 = 1) : FnIs Try.prog 26 [.d (i6 n), .d (encT [z0, z1, z2])] [] (.d (encOp ⟨2, -1, plainB z2⟩)) [] := by
  have hn0 : n ≠ 0 := by omega
  have d1 : decide (z0.tmod 16 < 6) = false := decide_eq_false h1
  have d2 : decide (z0.tmod 16 < 13) = false := decide_eq_false h2
  have d3 : decide (z0.tmod 16 < 15) = false := decide_eq_false h3
  refine fnIs_of tab_ok Try.func26 rfl rfl rfl ?_
  refine wc_seq ?_
  refine wc_region ?_
  refine reg_new (step_C tab_ok (fun K hk => hk)) rfl ?_
  refine reg_new (step_C tab_ok (fun K hk => hk)) rfl ?_
  refine reg_nil ?_
  refine seq_n ?_
  refine wc_seq ?_
  refine wc_region ?_
  refine reg_quiet rfl (step_C tab_ok (fun K hk => ⟨by omega, by omega, hk⟩)) ?_
  refine reg_quiet rfl (load_box (v := .int .u8 z2) tab_ok rfl rfl ⟨.sc (.int .u8 z2), ⟨rfl, z2, rfl, rfl⟩, rfl⟩ rfl) ?_
  refine reg_quiet rfl (call_r (plain_is z2) rfl rfl (arg_e arg_nil) (.inl rfl) (fun _ => rfl)) ?_
  refine reg_new (step_C tab_ok (fun K hk => hk)) rfl ?_
  refine reg_store (store_row tab_ok rfl rfl rfl ⟨_, ⟨rfl, rfl, rfl⟩, rfl⟩ rfl) ?_
  refine reg_nil ?_
  refine seq_n ?_
  refine wc_seq ?_
  refine wc_region ?_
  refine reg_quiet rfl (step_C tab_ok (fun K hk => ⟨by omega, by omega, hk⟩)) ?_
  refine reg_quiet rfl (load_box (v := .int .u8 z1) tab_ok rfl rfl ⟨.sc (.int .u8 z1), ⟨rfl, z1, rfl, rfl⟩, rfl⟩ rfl) ?_
  refine reg_quiet rfl (conv_int tab_ok rfl rfl rfl (wrap_i64 (by omega) (by omega))) ?_
  refine reg_quiet rfl (step_C tab_ok (fun K hk => hk)) ?_
  refine reg_quiet rfl (rem_int tab_ok rfl rfl (by omega)) ?_
  refine reg_quiet rfl (step_C tab_ok (fun K hk => hk)) ?_
  refine reg_nil ?_
  refine seq_n ?_
  refine wc_seq ?_
  refine wc_region ?_
  refine reg_quiet rfl (step_C tab_ok (fun K hk => ⟨by omega, by omega, hk⟩)) ?_
  refine reg_quiet rfl (load_box (v := .int .u8 z0) tab_ok rfl rfl ⟨.sc (.int .u8 z0), ⟨rfl, z0, rfl, rfl⟩, rfl⟩ rfl) ?_
  refine reg_quiet rfl (rem_int tab_ok rfl rfl (by omega)) ?_
  refine reg_quiet rfl (step_C tab_ok (fun K hk => hk)) ?_
  refine reg_nil ?_
  refine seq_n ?_
  refine wc_seq ?_
  refine wc_block ?_
  refine wc_seq ?_
  refine wc_region ?_
  refine reg_quiet rfl (step_C tab_ok (fun K hk => hk)) ?_
  refine reg_quiet rfl (step_C tab_ok (fun K hk => hk)) ?_
  refine reg_quiet rfl (step_C tab_ok (fun K hk => hk)) ?_
  refine reg_nil ?_
  refine seq_n ?_
  refine wc_false rfl (by assumption) ?_
  refine wc_seq ?_
  refine wc_region ?_
  refine reg_quiet rfl (step_C tab_ok (fun K hk => hk)) ?_
  refine reg_quiet rfl (step_C tab_ok (fun K hk => hk)) ?_
  refine reg_quiet rfl (step_C tab_ok (fun K hk => hk)) ?_
  refine reg_nil ?_
  refine seq_n ?_
  refine wc_false rfl (by assumption) ?_
  refine wc_seq ?_
  refine wc_region ?_
  refine reg_quiet rfl (step_C tab_ok (fun K hk => hk)) ?_
  refine reg_quiet rfl (step_C tab_ok (fun K hk => hk)) ?_
  refine reg_quiet rfl (step_C tab_ok (fun K hk => hk)) ?_
  refine reg_nil ?_
  refine seq_n ?_
  refine wc_false rfl (by assumption) ?_
  refine wc_skip ?_
  refine blk_n ?_
  refine seq_n ?_
  refine wc_seq ?_
  refine wc_draw (by kernel_rfl) ?_
  refine dreg_q [0] [] rfl (step_C tab_ok (fun K hk => hk)) ?_
  refine dreg_q [34] [] rfl (build_struct tab_ok rfl rfl rfl rfl) ?_
  refine dreg_q [5] [104] rfl (slice_ptr tab_ok rfl rfl rfl) ?_
  refine dreg_q [36] [104] rfl (build_struct tab_ok rfl rfl rfl rfl) ?_
  refine dreg_q [6] [] rfl (step_C tab_ok (fun K hk => hk)) ?_
  refine dreg_q [5] [104] rfl (slice_ptr_to (m := 31) tab_ok rfl rfl rfl rfl (by decide)) ?_
  refine dreg_q [38, 39] [104] rfl (build_struct tab_ok rfl rfl rfl rfl) ?_
  refine dreg_q [] [] rfl (build_struct tab_ok rfl rfl rfl rfl) ?_
  refine dreg_q [] [] rfl (build_struct tab_ok rfl rfl rfl rfl) ?_
  refine dreg_q [6] [] rfl (step_C tab_ok (fun K hk => hk)) ?_
  refine dreg_q [5] [104] rfl (slice_ptr tab_ok rfl rfl rfl) ?_
  refine dreg_w [] [] rfl (build_slice tab_ok rfl rfl rfl rfl rfl rfl rfl rfl) ?_
  refine dreg_w [44, 45] [104, 360] rfl (append_asl_one (enc := encU8) (s := 1) (xs := plainB z2) tab_ok 0 rfl rfl rfl rfl rfl rfl rfl rfl rfl (by decide) rfl) ?_
  refine dreg_q [43, 46] [368] rfl (build_struct tab_ok rfl rfl rfl rfl) ?_
  refine dreg_w [35, 37, 40, 41, 42, 47] [104, 368] rfl (build_slice tab_ok rfl rfl rfl rfl rfl rfl rfl rfl) ?_
  refine dreg_q [3] [64] rfl (step_C tab_ok (fun K hk => ⟨by omega, by omega, hk⟩)) ?_
  refine dreg_q [49] [64] rfl (load_box (v := .int .u8 z1) tab_ok rfl rfl ⟨.sc (.int .u8 z1), ⟨rfl, z1, rfl, rfl⟩, rfl⟩ rfl) ?_
  refine dreg_q [50] [] rfl (rem_to tab_ok rfl rfl (by omega) hm) ?_
  refine dreg_q [48, 51] [384, 104, 368] rfl (index_own tab_ok rfl rfl rfl rfl rfl (by decide) (by decide)) ?_
  refine dreg_q [52] [384, 104, 368] rfl (load_row tab_ok rfl rfl ⟨rfl, by decide, rfl⟩ rfl) ?_
  refine dreg_s [4, 53] [72, 104] (store_row tab_ok rfl rfl rfl ⟨_, ⟨rfl, rfl, rfl⟩, rfl⟩ rfl) ?_
  refine dreg_end (by kernel_rfl) ?_
  refine seq_n ?_
  refine wc_freeze (env' := [(4, .ptr 72 [])]) (h' := [(72, some (.box 47 (.d (encOp ⟨2, -1, (plainB z2).take 32⟩))))]) 104 (.box 41 (.d (encBlock (plainB z2)))) rfl ⟨⟨_, rfl, Frz.refl _⟩, trivial⟩ ⟨⟨rfl, _, rfl, FrzR.box (frz_asl 2 _ 104 41 32 32 (plainB z2) (by decide) (by decide))⟩, trivial⟩ ?_
  refine wc_ret ?_
  skip
  exact ⟨trivial, _, rfl, [], .of rfl rfl rfl rfl rfl ⟨⟨_, rfl, AVLe.of_eq (by rw [List.take_of_length_le (by rw [plain_len]; omega)]; rfl)⟩, rfl, trivial⟩ trivial⟩
theorem op_bad2 (n z0 z1 z2 : Int) (b0 : 0 ≤ z0 ∧ z0 ≤ 255) (b1 : 0 ≤ z1 ∧ z1 ≤ 255) (hn : 0 < n) (h1 : ¬ z0.tmod 16 < 6) (h2 : ¬ z0.tmod 16 < 13) (h3 : ¬ z0.tmod 16 < 15) (hm : z1.tmod 6 = 2) : FnIs Try.prog 26 [.d (i6 n), .d (encT [z0, z1, z2])] [] (.d (encOp ⟨2, z1.tmod n, (plainB z2).take 31⟩)) [] := by
  have hn0 : n ≠ 0 := by omega
  have d1 : decide (z0.tmod 16 < 6) = false := decide_eq_false h1
  have d2 : decide (z0.tmod 16 < 13) = false := decide_eq_false h2
  have d3 : decide (z0.tmod 16 < 15) = false := decide_eq_false h3
  refine fnIs_of tab_ok Try.func26 rfl rfl rfl ?_
  refine wc_seq ?_
  refine wc_region ?_
  refine reg_new (step_C tab_ok (fun K hk => hk)) rfl ?_
  refine reg_new (step_C tab_ok (fun K hk => hk)) rfl ?_
  refine reg_nil ?_
  refine seq_n ?_
  refine wc_seq ?_
  refine wc_region ?_
  refine reg_quiet rfl (step_C tab_ok (fun K hk => ⟨by omega, by omega, hk⟩)) ?_
  refine reg_quiet rfl (load_box (v := .int .u8 z2) tab_ok rfl rfl ⟨.sc (.int .u8 z2), ⟨rfl, z2, rfl, rfl⟩, rfl⟩ rfl) ?_
  refine reg_quiet rfl (call_r (plain_is z2) rfl rfl (arg_e arg_nil) (.inl rfl) (fun _ => rfl)) ?_
  refine reg_new (step_C tab_ok (fun K hk => hk)) rfl ?_
  refine reg_store (store_row tab_ok rfl rfl rfl ⟨_, ⟨rfl, rfl, rfl⟩, rfl⟩ rfl) ?_
  refine reg_nil ?_
  refine seq_n ?_
  refine wc_seq ?_
  refine wc_region ?_
  refine reg_quiet rfl (step_C tab_ok (fun K hk => ⟨by omega, by omega, hk⟩)) ?_
  refine reg_quiet rfl (load_box (v := .int .u8 z1) tab_ok rfl rfl ⟨.sc (.int .u8 z1), ⟨rfl, z1, rfl, rfl⟩, rfl⟩ rfl) ?_
  refine reg_quiet rfl (conv_int tab_ok rfl rfl rfl (wrap_i64 (by omega) (by omega))) ?_
  refine reg_quiet rfl (step_C tab_ok (fun K hk => hk)) ?_
  refine reg_quiet rfl (rem_int tab_ok rfl rfl (by omega)) ?_
  refine reg_quiet rfl (step_C tab_ok (fun K hk => hk)) ?_
  refine reg_nil ?_
  refine seq_n ?_
  refine wc_seq ?_
  refine wc_region ?_
  refine reg_quiet rfl (step_C tab_ok (fun K hk => ⟨by omega, by omega, hk⟩)) ?_
  refine reg_quiet rfl (load_box (v := .int .u8 z0) tab_ok rfl rfl ⟨.sc (.int .u8 z0), ⟨rfl, z0, rfl, rfl⟩, rfl⟩ rfl) ?_
  refine reg_quiet rfl (rem_int tab_ok rfl rfl (by omega)) ?_
  refine reg_quiet rfl (step_C tab_ok (fun K hk => hk)) ?_
  refine reg_nil ?_
  refine seq_n ?_
  refine wc_seq ?_
  refine wc_block ?_
  refine wc_seq ?_
  refine wc_region ?_
  refine reg_quiet rfl (step_C tab_ok (fun K hk => hk)) ?_
  refine reg_quiet rfl (step_C tab_ok (fun K hk => hk)) ?_
  refine reg_quiet rfl (step_C tab_ok (fun K hk => hk)) ?_
  refine reg_nil ?_
  refine seq_n ?_
  refine wc_false rfl (by assumption) ?_
  refine wc_seq ?_
  refine wc_region ?_
  refine reg_quiet rfl (step_C tab_ok (fun K hk => hk)) ?_
  refine reg_quiet rfl (step_C tab_ok (fun K hk => hk)) ?_
  refine reg_quiet rfl (step_C tab_ok (fun K hk => hk)) ?_
  refine reg_nil ?_
  refine seq_n ?_
  refine wc_false rfl (by assumption) ?_
  refine wc_seq ?_
  refine wc_region ?_
  refine reg_quiet rfl (step_C tab_ok (fun K hk => hk)) ?_
  refine reg_quiet rfl (step_C tab_ok (fun K hk => hk)) ?_
  refine reg_quiet rfl (step_C tab_ok (fun K hk => hk)) ?_
  refine reg_nil ?_
  refine seq_n ?_
  refine wc_false rfl (by assumption) ?_
  refine wc_skip ?_
  refine blk_n ?_
  refine seq_n ?_
  refine wc_seq ?_
  refine wc_draw (by kernel_rfl) ?_
  refine dreg_q [0] [] rfl (step_C tab_ok (fun K hk => hk)) ?_
  refine dreg_q [34] [] rfl (build_struct tab_ok rfl rfl rfl rfl) ?_
  refine dreg_q [5] [104] rfl (slice_ptr tab_ok rfl rfl rfl) ?_
  refine dreg_q [36] [104] rfl (build_struct tab_ok rfl rfl rfl rfl) ?_
  refine dreg_q [6] [] rfl (step_C tab_ok (fun K hk => hk)) ?_
  refine dreg_q [5] [104] rfl (slice_ptr_to (m := 31) tab_ok rfl rfl rfl rfl (by decide)) ?_
  refine dreg_q [38, 39] [104] rfl (build_struct tab_ok rfl rfl rfl rfl) ?_
  refine dreg_q [] [] rfl (build_struct tab_ok rfl rfl rfl rfl) ?_
  refine dreg_q [] [] rfl (build_struct tab_ok rfl rfl rfl rfl) ?_
  refine dreg_q [6] [] rfl (step_C tab_ok (fun K hk => hk)) ?_
  refine dreg_q [5] [104] rfl (slice_ptr tab_ok rfl rfl rfl) ?_
  refine dreg_w [] [] rfl (build_slice tab_ok rfl rfl rfl rfl rfl rfl rfl rfl) ?_
  refine dreg_w [44, 45] [104, 360] rfl (append_asl_one (enc := encU8) (s := 1) (xs := plainB z2) tab_ok 0 rfl rfl rfl rfl rfl rfl rfl rfl rfl (by decide) rfl) ?_
  refine dreg_q [43, 46] [368] rfl (build_struct tab_ok rfl rfl rfl rfl) ?_
  refine dreg_w [35, 37, 40, 41, 42, 47] [104, 368] rfl (build_slice tab_ok rfl rfl rfl rfl rfl rfl rfl rfl) ?_
  refine dreg_q [3] [64] rfl (step_C tab_ok (fun K hk => ⟨by omega, by omega, hk⟩)) ?_
  refine dreg_q [49] [64] rfl (load_box (v := .int .u8 z1) tab_ok rfl rfl ⟨.sc (.int .u8 z1), ⟨rfl, z1, rfl, rfl⟩, rfl⟩ rfl) ?_
  refine dreg_q [50] [] rfl (rem_to tab_ok rfl rfl (by omega) hm) ?_
  refine dreg_q [48, 51] [384, 104, 368] rfl (index_own tab_ok rfl rfl rfl rfl rfl (by decide) (by decide)) ?_
  refine dreg_q [52] [384, 104, 368] rfl (load_row tab_ok rfl rfl ⟨rfl, by decide, rfl⟩ rfl) ?_
  refine dreg_s [4, 53] [72, 104] (store_row tab_ok rfl rfl rfl ⟨_, ⟨rfl, rfl, rfl⟩, rfl⟩ rfl) ?_
  refine dreg_end (by kernel_rfl) ?_
  refine seq_n ?_
  refine wc_freeze (env' := [(4, .ptr 72 [])]) (h' := [(72, some (.box 47 (.d (encOp ⟨2, z1.tmod n, (plainB z2).take 31⟩))))]) 104 (.box 41 (.d (encBlock (plainB z2)))) rfl ⟨⟨_, rfl, Frz.refl _⟩, trivial⟩ ⟨⟨rfl, _, rfl, FrzR.box (frz_asl 2 _ 104 41 31 32 (plainB z2) (by decide) (by decide))⟩, trivial⟩ ?_
  refine wc_ret ?_
  skip
  exact ⟨trivial, _, rfl, [], .of rfl rfl rfl rfl rfl ⟨⟨_, rfl, AVLe.of_eq rfl⟩, rfl, trivial⟩ trivial⟩
theorem op_bad3 (n z0 z1 z2 : Int) (b0 : 0 ≤ z0 ∧ z0 ≤ 255) (b1 : 0 ≤ z1 ∧ z1 ≤ 255) (hn : 0 < n) (h1 : ¬ z0.tmod 16 < 6) (h2 : ¬ z0.tmod 16 < 13) (h3 : ¬ z0.tmod 16 < 15) (hm : z1.tmod 6 = 3) : FnIs Try.prog 26 [.d (i6 n), .d (encT [z0, z1, z2])] [] (.d (encOp ⟨0, 0, []⟩)) [] := by
  have hn0 : n ≠ 0 := by omega
  have d1 : decide (z0.tmod 16 < 6) = false := decide_eq_false h1
  have d2 : decide (z0.tmod 16 < 13) = false := decide_eq_false h2
  have d3 : decide (z0.tmod 16 < 15) = false := decide_eq_false h3
  refine fnIs_of tab_ok Try.func26 rfl rfl rfl ?_
  refine wc_seq ?_
  refine wc_region ?_
  refine reg_new (step_C tab_ok (fun K hk => hk)) rfl ?_
  refine reg_new (step_C tab_ok (fun K hk => hk)) rfl ?_
  refine reg_nil ?_
  refine seq_n ?_
  refine wc_seq ?_
  refine wc_region ?_
  refine reg_quiet rfl (step_C tab_ok (fun K hk => ⟨by omega, by omega, hk⟩)) ?_
  refine reg_quiet rfl (load_box (v := .int .u8 z2) tab_ok rfl rfl ⟨.sc (.int .u8 z2), ⟨rfl, z2, rfl, rfl⟩, rfl⟩ rfl) ?_
  refine reg_quiet rfl (call_r (plain_is z2) rfl rfl (arg_e arg_nil) (.inl rfl) (fun _ => rfl)) ?_
  refine reg_new (step_C tab_ok (fun K hk => hk)) rfl ?_
  refine reg_store (store_row tab_ok rfl rfl rfl ⟨_, ⟨rfl, rfl, rfl⟩, rfl⟩ rfl) ?_
  refine reg_nil ?_
  refine seq_n ?_
  refine wc_seq ?_
  refine wc_region ?_
  refine reg_quiet rfl (step_C tab_ok (fun K hk => ⟨by omega, by omega, hk⟩)) ?_
  refine reg_quiet rfl (load_box (v := .int .u8 z1) tab_ok rfl rfl ⟨.sc (.int .u8 z1), ⟨rfl, z1, rfl, rfl⟩, rfl⟩ rfl) ?_
  refine reg_quiet rfl (conv_int tab_ok rfl rfl rfl (wrap_i64 (by omega) (by omega))) ?_
  refine reg_quiet rfl (step_C tab_ok (fun K hk => hk)) ?_
  refine reg_quiet rfl (rem_int tab_ok rfl rfl (by omega)) ?_
  refine reg_quiet rfl (step_C tab_ok (fun K hk => hk)) ?_
  refine reg_nil ?_
  refine seq_n ?_
  refine wc_seq ?_
  refine wc_region ?_
  refine reg_quiet rfl (step_C tab_ok (fun K hk => ⟨by omega, by omega, hk⟩)) ?_
  refine reg_quiet rfl (load_box (v := .int .u8 z0) tab_ok rfl rfl ⟨.sc (.int .u8 z0), ⟨rfl, z0, rfl, rfl⟩, rfl⟩ rfl) ?_
  refine reg_quiet rfl (rem_int tab_ok rfl rfl (by omega)) ?_
  refine reg_quiet rfl (step_C tab_ok (fun K hk => hk)) ?_
  refine reg_nil ?_
  refine seq_n ?_
  refine wc_seq ?_
  refine wc_block ?_
  refine wc_seq ?_
  refine wc_region ?_
  refine reg_quiet rfl (step_C tab_ok (fun K hk => hk)) ?_
  refine reg_quiet rfl (step_C tab_ok (fun K hk => hk)) ?_
  refine reg_quiet rfl (step_C tab_ok (fun K hk => hk)) ?_
  refine reg_nil ?_
  refine seq_n ?_
  refine wc_false rfl (by assumption) ?_
  refine wc_seq ?_
  refine wc_region ?_
  refine reg_quiet rfl (step_C tab_ok (fun K hk => hk)) ?_
  refine reg_quiet rfl (step_C tab_ok (fun K hk => hk)) ?_
  refine reg_quiet rfl (step_C tab_ok (fun K hk => hk)) ?_
  refine reg_nil ?_
  refine seq_n ?_
  refine wc_false rfl (by assumption) ?_
  refine wc_seq ?_
  refine wc_region ?_
  refine reg_quiet rfl (step_C tab_ok (fun K hk => hk)) ?_
  refine reg_quiet rfl (step_C tab_ok (fun K hk => hk)) ?_
  refine reg_quiet rfl (step_C tab_ok (fun K hk => hk)) ?_
  refine reg_nil ?_
  refine seq_n ?_
  refine wc_false rfl (by assumption) ?_
  refine wc_skip ?_
  refine blk_n ?_
  refine seq_n ?_
  refine wc_seq ?_
  refine wc_draw (by kernel_rfl) ?_
  refine dreg_q [0] [] rfl (step_C tab_ok (fun K hk => hk)) ?_
  refine dreg_q [34] [] rfl (build_struct tab_ok rfl rfl rfl rfl) ?_
  refine dreg_q [5] [104] rfl (slice_ptr tab_ok rfl rfl rfl) ?_
  refine dreg_q [36] [104] rfl (build_struct tab_ok rfl rfl rfl rfl) ?_
  refine dreg_q [6] [] rfl (step_C tab_ok (fun K hk => hk)) ?_
  refine dreg_q [5] [104] rfl (slice_ptr_to (m := 31) tab_ok rfl rfl rfl rfl (by decide)) ?_
  refine dreg_q [38, 39] [104] rfl (build_struct tab_ok rfl rfl rfl rfl) ?_
  refine dreg_q [] [] rfl (build_struct tab_ok rfl rfl rfl rfl) ?_
  refine dreg_q [] [] rfl (build_struct tab_ok rfl rfl rfl rfl) ?_
  refine dreg_q [6] [] rfl (step_C tab_ok (fun K hk => hk)) ?_
  refine dreg_q [5] [104] rfl (slice_ptr tab_ok rfl rfl rfl) ?_
  refine dreg_w [] [] rfl (build_slice tab_ok rfl rfl rfl rfl rfl rfl rfl rfl) ?_
  refine dreg_w [44, 45] [104, 360] rfl (append_asl_one (enc := encU8) (s := 1) (xs := plainB z2) tab_ok 0 rfl rfl rfl rfl rfl rfl rfl rfl rfl (by decide) rfl) ?_
  refine dreg_q [43, 46] [368] rfl (build_struct tab_ok rfl rfl rfl rfl) ?_
  refine dreg_w [35, 37, 40, 41, 42, 47] [104, 368] rfl (build_slice tab_ok rfl rfl rfl rfl rfl rfl rfl rfl) ?_
  refine dreg_q [3] [64] rfl (step_C tab_ok (fun K hk => ⟨by omega, by omega, hk⟩)) ?_
  refine dreg_q [49] [64] rfl (load_box (v := .int .u8 z1) tab_ok rfl rfl ⟨.sc (.int .u8 z1), ⟨rfl, z1, rfl, rfl⟩, rfl⟩ rfl) ?_
  refine dreg_q [50] [] rfl (rem_to tab_ok rfl rfl (by omega) hm) ?_
  refine dreg_q [48, 51] [384, 104, 368] rfl (index_own tab_ok rfl rfl rfl rfl rfl (by decide) (by decide)) ?_
  refine dreg_q [52] [384, 104, 368] rfl (load_row tab_ok rfl rfl ⟨rfl, by decide, rfl⟩ rfl) ?_
  refine dreg_s [4, 53] [72] (store_row tab_ok rfl rfl rfl ⟨_, ⟨rfl, rfl, rfl⟩, rfl⟩ rfl) ?_
  refine dreg_end (by kernel_rfl) ?_
  refine seq_n ?_
  refine wc_ret ?_
  skip
  exact ⟨trivial, _, rfl, [], .of rfl rfl rfl rfl rfl ⟨⟨_, rfl, op_nil _ _⟩, rfl, trivial⟩ trivial⟩
theorem op_bad4 (n z0 z1 z2 : Int) (b0 : 0 ≤ z0 ∧ z0 ≤ 255) (b1 : 0 ≤ z1 ∧ z1 ≤ 255) (hn : 0 < n) (h1 : ¬ z0.tmod 16 < 6) (h2 : ¬ z0.tmod 16 < 13) (h3 : ¬ z0.tmod 16 < 15) (hm : z1.tmod 6 = 4) : FnIs Try.prog 26 [.d (i6 n), .d (encT [z0, z1, z2])] [] (.d (encOp ⟨4, 0, []⟩)) [] := by
  have hn0 : n ≠ 0 := by omega
  have d1 : decide (z0.tmod 16 < 6) = false := decide_eq_false h1
  have d2 : decide (z0.tmod 16 < 13) = false := decide_eq_false h2
  have d3 : decide (z0.tmod 16 < 15) = false := decide_eq_false h3
  refine fnIs_of tab_ok Try.func26 rfl rfl rfl ?_
  refine wc_seq ?_
  refine wc_region ?_
  refine reg_new (step_C tab_ok (fun K hk => hk)) rfl ?_
  refine reg_new (step_C tab_ok (fun K hk => hk)) rfl ?_
  refine reg_nil ?_
  refine seq_n ?_
  refine wc_seq ?_
  refine wc_region ?_
  refine reg_quiet rfl (step_C tab_ok (fun K hk => ⟨by omega, by omega, hk⟩)) ?_
  refine reg_quiet rfl (load_box (v := .int .u8 z2) tab_ok rfl rfl ⟨.sc (.int .u8 z2), ⟨rfl, z2, rfl, rfl⟩, rfl⟩ rfl) ?_
  refine reg_quiet rfl (call_r (plain_is z2) rfl rfl (arg_e arg_nil) (.inl rfl) (fun _ => rfl)) ?_
  refine reg_new (step_C tab_ok (fun K hk => hk)) rfl ?_
  refine reg_store (store_row tab_ok rfl rfl rfl ⟨_, ⟨rfl, rfl, rfl⟩, rfl⟩ rfl) ?_
  refine reg_nil ?_
  refine seq_n ?_
  refine wc_seq ?_
  refine wc_region ?_
  refine reg_quiet rfl (step_C tab_ok (fun K hk => ⟨by omega, by omega, hk⟩)) ?_
  refine reg_quiet rfl (load_box (v := .int .u8 z1) tab_ok rfl rfl ⟨.sc (.int .u8 z1), ⟨rfl, z1, rfl, rfl⟩, rfl⟩ rfl) ?_
  refine reg_quiet rfl (conv_int tab_ok rfl rfl rfl (wrap_i64 (by omega) (by omega))) ?_
  refine reg_quiet rfl (step_C tab_ok (fun K hk => hk)) ?_
  refine reg_quiet rfl (rem_int tab_ok rfl rfl (by omega)) ?_
  refine reg_quiet rfl (step_C tab_ok (fun K hk => hk)) ?_
  refine reg_nil ?_
  refine seq_n ?_
  refine wc_seq ?_
  refine wc_region ?_
  refine reg_quiet rfl (step_C tab_ok (fun K hk => ⟨by omega, by omega, hk⟩)) ?_
  refine reg_quiet rfl (load_box (v := .int .u8 z0) tab_ok rfl rfl ⟨.sc (.int .u8 z0), ⟨rfl, z0, rfl, rfl⟩, rfl⟩ rfl) ?_
  refine reg_quiet rfl (rem_int tab_ok rfl rfl (by omega)) ?_
  refine reg_quiet rfl (step_C tab_ok (fun K hk => hk)) ?_
  refine reg_nil ?_
  refine seq_n ?_
  refine wc_seq ?_
  refine wc_block ?_
  refine wc_seq ?_
  refine wc_region ?_
  refine reg_quiet rfl (step_C tab_ok (fun K hk => hk)) ?_
  refine reg_quiet rfl (step_C tab_ok (fun K hk => hk)) ?_
  refine reg_quiet rfl (step_C tab_ok (fun K hk => hk)) ?_
  refine reg_nil ?_
  refine seq_n ?_
  refine wc_false rfl (by assumption) ?_
  refine wc_seq ?_
  refine wc_region ?_
  refine reg_quiet rfl (step_C tab_ok (fun K hk => hk)) ?_
  refine reg_quiet rfl (step_C tab_ok (fun K hk => hk)) ?_
  refine reg_quiet rfl (step_C tab_ok (fun K hk => hk)) ?_
  refine reg_nil ?_
  refine seq_n ?_
  refine wc_false rfl (by assumption) ?_
  refine wc_seq ?_
  refine wc_region ?_
  refine reg_quiet rfl (step_C tab_ok (fun K hk => hk)) ?_
  refine reg_quiet rfl (step_C tab_ok (fun K hk => hk)) ?_
  refine reg_quiet rfl (step_C tab_ok (fun K hk => hk)) ?_
  refine reg_nil ?_
  refine seq_n ?_
  refine wc_false rfl (by assumption) ?_
  refine wc_skip ?_
  refine blk_n ?_
  refine seq_n ?_
  refine wc_seq ?_
  refine wc_draw (by kernel_rfl) ?_
  refine dreg_q [0] [] rfl (step_C tab_ok (fun K hk => hk)) ?_
  refine dreg_q [34] [] rfl (build_struct tab_ok rfl rfl rfl rfl) ?_
  refine dreg_q [5] [104] rfl (slice_ptr tab_ok rfl rfl rfl) ?_
  refine dreg_q [36] [104] rfl (build_struct tab_ok rfl rfl rfl rfl) ?_
  refine dreg_q [6] [] rfl (step_C tab_ok (fun K hk => hk)) ?_
  refine dreg_q [5] [104] rfl (slice_ptr_to (m := 31) tab_ok rfl rfl rfl rfl (by decide)) ?_
  refine dreg_q [38, 39] [104] rfl (build_struct tab_ok rfl rfl rfl rfl) ?_
  refine dreg_q [] [] rfl (build_struct tab_ok rfl rfl rfl rfl) ?_
  refine dreg_q [] [] rfl (build_struct tab_ok rfl rfl rfl rfl) ?_
  refine dreg_q [6] [] rfl (step_C tab_ok (fun K hk => hk)) ?_
  refine dreg_q [5] [104] rfl (slice_ptr tab_ok rfl rfl rfl) ?_
  refine dreg_w [] [] rfl (build_slice tab_ok rfl rfl rfl rfl rfl rfl rfl rfl) ?_
  refine dreg_w [44, 45] [104, 360] rfl (append_asl_one (enc := encU8) (s := 1) (xs := plainB z2) tab_ok 0 rfl rfl rfl rfl rfl rfl rfl rfl rfl (by decide) rfl) ?_
  refine dreg_q [43, 46] [368] rfl (build_struct tab_ok rfl rfl rfl rfl) ?_
  refine dreg_w [35, 37, 40, 41, 42, 47] [104, 368] rfl (build_slice tab_ok rfl rfl rfl rfl rfl rfl rfl rfl) ?_
  refine dreg_q [3] [64] rfl (step_C tab_ok (fun K hk => ⟨by omega, by omega, hk⟩)) ?_
  refine dreg_q [49] [64] rfl (load_box (v := .int .u8 z1) tab_ok rfl rfl ⟨.sc (.int .u8 z1), ⟨rfl, z1, rfl, rfl⟩, rfl⟩ rfl) ?_
  refine dreg_q [50] [] rfl (rem_to tab_ok rfl rfl (by omega) hm) ?_
  refine dreg_q [48, 51] [384, 104, 368] rfl (index_own tab_ok rfl rfl rfl rfl rfl (by decide) (by decide)) ?_
  refine dreg_q [52] [384, 104, 368] rfl (load_row tab_ok rfl rfl ⟨rfl, by decide, rfl⟩ rfl) ?_
  refine dreg_s [4, 53] [72] (store_row tab_ok rfl rfl rfl ⟨_, ⟨rfl, rfl, rfl⟩, rfl⟩ rfl) ?_
  refine dreg_end (by kernel_rfl) ?_
  refine seq_n ?_
  refine wc_ret ?_
  skip
  exact ⟨trivial, _, rfl, [], .of rfl rfl rfl rfl rfl ⟨⟨_, rfl, op_nil _ _⟩, rfl, trivial⟩ trivial⟩
theorem op_bad5 (n z0 z1 z2 : Int) (b0 : 0 ≤ z0 ∧ z0 ≤ 255) (b1 : 0 ≤ z1 ∧ z1 ≤ 255) (hn : 0 < n) (h1 : ¬ z0.tmod 16 < 6) (h2 : ¬ z0.tmod 16 < 13) (h3 : ¬ z0.tmod 16 < 15) (hm : z1.tmod 6 = 5) : FnIs Try.prog 26 [.d (i6 n), .d (encT [z0, z1, z2])] [] (.d (encOp ⟨2, z1.tmod n, plainB z2 ++ [0]⟩)) [] := by
  have hn0 : n ≠ 0 := by omega
  have d1 : decide (z0.tmod 16 < 6) = false := decide_eq_false h1
  have d2 : decide (z0.tmod 16 < 13) = false := decide_eq_false h2
  have d3 : decide (z0.tmod 16 < 15) = false := decide_eq_false h3
  refine fnIs_of tab_ok Try.func26 rfl rfl rfl ?_
  refine wc_seq ?_
  refine wc_region ?_
  refine reg_new (step_C tab_ok (fun K hk => hk)) rfl ?_
  refine reg_new (step_C tab_ok (fun K hk => hk)) rfl ?_
  refine reg_nil ?_
  refine seq_n ?_
  refine wc_seq ?_
  refine wc_region ?_
  refine reg_quiet rfl (step_C tab_ok (fun K hk => ⟨by omega, by omega, hk⟩)) ?_
  refine reg_quiet rfl (load_box (v := .int .u8 z2) tab_ok rfl rfl ⟨.sc (.int .u8 z2), ⟨rfl, z2, rfl, rfl⟩, rfl⟩ rfl) ?_
  refine reg_quiet rfl (call_r (plain_is z2) rfl rfl (arg_e arg_nil) (.inl rfl) (fun _ => rfl)) ?_
  refine reg_new (step_C tab_ok (fun K hk => hk)) rfl ?_
  refine reg_store (store_row tab_ok rfl rfl rfl ⟨_, ⟨rfl, rfl, rfl⟩, rfl⟩ rfl) ?_
  refine reg_nil ?_
  refine seq_n ?_
  refine wc_seq ?_
  refine wc_region ?_
  refine reg_quiet rfl (step_C tab_ok (fun K hk => ⟨by omega, by omega, hk⟩)) ?_
  refine reg_quiet rfl (load_box (v := .int .u8 z1) tab_ok rfl rfl ⟨.sc (.int .u8 z1), ⟨rfl, z1, rfl, rfl⟩, rfl⟩ rfl) ?_
  refine reg_quiet rfl (conv_int tab_ok rfl rfl rfl (wrap_i64 (by omega) (by omega))) ?_
  refine reg_quiet rfl (step_C tab_ok (fun K hk => hk)) ?_
  refine reg_quiet rfl (rem_int tab_ok rfl rfl (by omega)) ?_
  refine reg_quiet rfl (step_C tab_ok (fun K hk => hk)) ?_
  refine reg_nil ?_
  refine seq_n ?_
  refine wc_seq ?_
  refine wc_region ?_
  refine reg_quiet rfl (step_C tab_ok (fun K hk => ⟨by omega, by omega, hk⟩)) ?_
  refine reg_quiet rfl (load_box (v := .int .u8 z0) tab_ok rfl rfl ⟨.sc (.int .u8 z0), ⟨rfl, z0, rfl, rfl⟩, rfl⟩ rfl) ?_
  refine reg_quiet rfl (rem_int tab_ok rfl rfl (by omega)) ?_
  refine reg_quiet rfl (step_C tab_ok (fun K hk => hk)) ?_
  refine reg_nil ?_
  refine seq_n ?_
  refine wc_seq ?_
  refine wc_block ?_
  refine wc_seq ?_
  refine wc_region ?_
  refine reg_quiet rfl (step_C tab_ok (fun K hk => hk)) ?_
  refine reg_quiet rfl (step_C tab_ok (fun K hk => hk)) ?_
  refine reg_quiet rfl (step_C tab_ok (fun K hk => hk)) ?_
  refine reg_nil ?_
  refine seq_n ?_
  refine wc_false rfl (by assumption) ?_
  refine wc_seq ?_
  refine wc_region ?_
  refine reg_quiet rfl (step_C tab_ok (fun K hk => hk)) ?_
  refine reg_quiet rfl (step_C tab_ok (fun K hk => hk)) ?_
  refine reg_quiet rfl (step_C tab_ok (fun K hk => hk)) ?_
  refine reg_nil ?_
  refine seq_n ?_
  refine wc_false rfl (by assumption) ?_
  refine wc_seq ?_
  refine wc_region ?_
  refine reg_quiet rfl (step_C tab_ok (fun K hk => hk)) ?_
  refine reg_quiet rfl (step_C tab_ok (fun K hk => hk)) ?_
  refine reg_quiet rfl (step_C tab_ok (fun K hk => hk)) ?_
  refine reg_nil ?_
  refine seq_n ?_
  refine wc_false rfl (by assumption) ?_
  refine wc_skip ?_
  refine blk_n ?_
  refine seq_n ?_
  refine wc_seq ?_
  refine wc_draw (by kernel_rfl) ?_
  refine dreg_q [0] [] rfl (step_C tab_ok (fun K hk => hk)) ?_
  refine dreg_q [34] [] rfl (build_struct tab_ok rfl rfl rfl rfl) ?_
  refine dreg_q [5] [104] rfl (slice_ptr tab_ok rfl rfl rfl) ?_
  refine dreg_q [36] [104] rfl (build_struct tab_ok rfl rfl rfl rfl) ?_
  refine dreg_q [6] [] rfl (step_C tab_ok (fun K hk => hk)) ?_
  refine dreg_q [5] [104] rfl (slice_ptr_to (m := 31) tab_ok rfl rfl rfl rfl (by decide)) ?_
  refine dreg_q [38, 39] [104] rfl (build_struct tab_ok rfl rfl rfl rfl) ?_
  refine dreg_q [] [] rfl (build_struct tab_ok rfl rfl rfl rfl) ?_
  refine dreg_q [] [] rfl (build_struct tab_ok rfl rfl rfl rfl) ?_
  refine dreg_q [6] [] rfl (step_C tab_ok (fun K hk => hk)) ?_
  refine dreg_q [5] [104] rfl (slice_ptr tab_ok rfl rfl rfl) ?_
  refine dreg_w [] [] rfl (build_slice tab_ok rfl rfl rfl rfl rfl rfl rfl rfl) ?_
  refine dreg_w [44, 45] [104, 360] rfl (append_asl_one (enc := encU8) (s := 1) (xs := plainB z2) tab_ok 0 rfl rfl rfl rfl rfl rfl rfl rfl rfl (by decide) rfl) ?_
  refine dreg_q [43, 46] [368] rfl (build_struct tab_ok rfl rfl rfl rfl) ?_
  refine dreg_w [35, 37, 40, 41, 42, 47] [104, 368] rfl (build_slice tab_ok rfl rfl rfl rfl rfl rfl rfl rfl) ?_
  refine dreg_q [3] [64] rfl (step_C tab_ok (fun K hk => ⟨by omega, by omega, hk⟩)) ?_
  refine dreg_q [49] [64] rfl (load_box (v := .int .u8 z1) tab_ok rfl rfl ⟨.sc (.int .u8 z1), ⟨rfl, z1, rfl, rfl⟩, rfl⟩ rfl) ?_
  refine dreg_q [50] [] rfl (rem_to tab_ok rfl rfl (by omega) hm) ?_
  refine dreg_q [48, 51] [384, 104, 368] rfl (index_own tab_ok rfl rfl rfl rfl rfl (by decide) (by decide)) ?_
  refine dreg_q [52] [384, 104, 368] rfl (load_row tab_ok rfl rfl ⟨rfl, by decide, rfl⟩ rfl) ?_
  refine dreg_s [4, 53] [72, 368] (store_row tab_ok rfl rfl rfl ⟨_, ⟨rfl, rfl, rfl⟩, rfl⟩ rfl) ?_
  refine dreg_end (by kernel_rfl) ?_
  refine seq_n ?_
  refine wc_freeze (env' := [(4, .ptr 72 [])]) (h' := [(72, some (.box 47 (.d (encOp ⟨2, z1.tmod n, plainB z2 ++ [0]⟩))))]) 368 (.ds 5 1 false encU8 (plainB z2 ++ [0])) rfl ⟨⟨_, rfl, Frz.refl _⟩, trivial⟩ ⟨⟨rfl, _, rfl, FrzR.box (frz_own 2 _ 368 5 ((plainB z2).length + 1) false none (plainB z2 ++ [0]) (by simp))⟩, trivial⟩ ?_
  refine wc_ret ?_
  skip
  exact ⟨trivial, _, rfl, [], .of rfl rfl rfl rfl rfl ⟨⟨_, rfl, AVLe.of_eq rfl⟩, rfl, trivial⟩ trivial⟩
theorem op_is (n z0 z1 z2 : Int) (b0 : 0 ≤ z0 ∧ z0 ≤ 255) (b1 : 0 ≤ z1 ∧ z1 ≤ 255) (hn : 0 < n) : FnIs Try.prog 26 [.d (i6 n), .d (encT [z0, z1, z2])] [] (.d (encOp (opOf n z0 z1 z2))) [] := by
  unfold opOf
  by_cases h1 : z0.tmod 16 < 6
  · rw [if_pos h1]; exact op_read n z0 z1 z2 b0 b1 hn h1
  rw [if_neg h1]
  by_cases h2 : z0.tmod 16 < 13
  · rw [if_pos h2]; exact op_write n z0 z1 z2 b0 b1 hn h1 h2
  rw [if_neg h2]
  by_cases h3 : z0.tmod 16 < 15
  · rw [if_pos h3]; exact op_flush n z0 z1 z2 b0 b1 hn h1 h2 h3
  rw [if_neg h3]
  have hm : z1.tmod 6 = 0 ∨ z1.tmod 6 = 1 ∨ z1.tmod 6 = 2 ∨ z1.tmod 6 = 3 ∨ z1.tmod 6 = 4 ∨ z1.tmod 6 = 5 := by
    rw [Int.tmod_eq_emod_of_nonneg b1.1]
    omega
  unfold badOps
  rcases hm with hm | hm | hm | hm | hm | hm
  · rw [hm]; exact op_bad0 n z0 z1 z2 b0 b1 hn h1 h2 h3 hm
  · rw [hm]; exact op_bad1 n z0 z1 z2 b0 b1 hn h1 h2 h3 hm
  · rw [hm]; exact op_bad2 n z0 z1 z2 b0 b1 hn h1 h2 h3 hm
  · rw [hm]; exact op_bad3 n z0 z1 z2 b0 b1 hn h1 h2 h3 hm
  · rw [hm]; exact op_bad4 n z0 z1 z2 b0 b1 hn h1 h2 h3 hm
  · rw [hm]; exact op_bad5 n z0 z1 z2 b0 b1 hn h1 h2 h3 hm
end Go.Proofs.Ytjpjchohpjbknaa

/- Arrays: the operations of a law, and the array after them. -/
namespace Go.Proofs.Ytjpjchohpjbknaa
open Go.Eng
set_option maxHeartbeats 2000000
attribute [local irreducible] WC RegS RegD SeqQ BlkQ ScoQ RegK CutK Sat SatN FnIs LoopQ StepIs OpIs
abbrev encO (bl : Int) (zs : List (List Int)) : D := .cons (u8s bl) (.cons (.arr 3 encT zs) .nil)
def Three (zs : List (List Int)) : Prop := ∀ z ∈ zs, z.length = 3 ∧ ∀ a ∈ z, 0 ≤ a ∧ a ≤ 255
def opZ (n : Int) : List Int → Oper
  | [a, b, c] => opOf n a b c
  | _ => ⟨0, 0, []⟩
def opsK (n : Int) (zs : List (List Int)) (k : Nat) : List Oper := (zs.take k).map (opZ n)
theorem opsK_len {n : Int} {zs : List (List Int)} {k : Nat} (h : k ≤ zs.length) : (opsK n zs k).length = k := by simp [opsK]; omega
theorem opsK_succ {n : Int} {zs : List (List Int)} {k : Nat} {z0 z1 z2 : Int} (h : zs[k]? = some [z0, z1, z2]) : opsK n zs (k + 1) = opsK n zs k ++ [opOf n z0 z1 z2] := by
  have hlt := (List.getElem?_eq_some_iff.1 h).1
  rw [opsK, List.take_add_one, h, List.map_append]
  rfl
abbrev nOf (bl : Int) : Int := 1 + bl.tmod 20
def opsOf (bl : Int) (zs : List (List Int)) : List Oper := opsK (nOf bl) zs (min zs.length 30)
theorem nOf_bound {bl : Int} (h : 0 ≤ bl ∧ bl ≤ 255) : 1 ≤ nOf bl ∧ nOf bl ≤ 20 := by
  rw [nOf, Int.tmod_eq_emod_of_nonneg h.1]
  omega
theorem three_get {zs : List (List Int)} (h : Three zs) {k : Nat} (hk : k < zs.length) : ∃ z0 z1 z2, zs[k]? = some [z0, z1, z2] ∧ (0 ≤ z0 ∧ z0 ≤ 255) ∧ (0 ≤ z1 ∧ z1 ≤ 255) ∧ (0 ≤ z2 ∧ z2 ≤ 255) := by
  have h3 : zs[k]? = some zs[k] := by simp [hk]
  obtain ⟨hl, hb⟩ := h zs[k] (List.getElem_mem _)
  match hm : zs[k], hl with
  | [a, b, c], _ =>
    rw [hm] at hb
    exact ⟨a, b, c, by rw [h3, hm], hb a (by simp), hb b (by simp), hb c (by simp)⟩
theorem of_is (bl : Int) (zs : List (List Int)) (hbl : 0 ≤ bl ∧ bl ≤ 255) (hz3 : Three zs) : FnIs Try.prog 14 [.d (encO bl zs)] [] (.tup (.acons (.int .i64 (nOf bl)) (.acons (.own 64 0 (opsOf bl zs).length 3 none) .anil))) [(64, .ds 47 3 false encOp (opsOf bl zs))] := by
  have hnb := nOf_bound hbl
  have hn : 0 < nOf bl := by omega
  have hm0 : 0 ≤ bl.tmod 20 := Int.tmod_nonneg _ hbl.1
  have hm1 : bl.tmod 20 < 20 := Int.tmod_lt_of_pos _ (by omega)
  refine fnIs_of tab_ok Try.func14 rfl rfl rfl ?_
  refine wc_seq ?_
  refine wc_region ?_
  refine reg_new (step_C tab_ok (fun K hk => hk)) rfl ?_
  refine reg_quiet rfl (step_C tab_ok (fun K hk => hk)) ?_
  refine reg_quiet rfl (step_C tab_ok (fun K hk => hk)) ?_
  refine reg_nil ?_
  refine seq_n ?_
  refine wc_seq ?_
  refine wc_region ?_
  refine reg_quiet rfl (step_C tab_ok (fun K hk => hk)) ?_
  refine reg_quiet rfl (load_box tab_ok rfl rfl ⟨_, rfl, rfl⟩ rfl) ?_
  refine reg_quiet rfl (conv_int tab_ok rfl rfl rfl (wrap_i64 (by omega) (by omega))) ?_
  refine reg_quiet rfl (rem_int tab_ok rfl rfl (by omega)) ?_
  refine reg_quiet rfl (add_int tab_ok rfl rfl (wrap_i64 (by omega) (by omega))) ?_
  refine reg_quiet rfl (step_C tab_ok (fun K hk => hk)) ?_
  refine reg_nil ?_
  refine seq_n ?_
  refine wc_seq ?_
  refine wc_region ?_
  refine reg_quiet rfl (step_C tab_ok (fun K hk => hk)) ?_
  refine reg_nil ?_
  refine seq_n ?_
  refine wc_seq ?_
  refine wc_seq ?_
  refine wc_region ?_
  refine reg_quiet rfl (step_C tab_ok (fun K hk => hk)) ?_
  refine reg_nil ?_
  refine seq_n ?_
  refine wc_block ?_
  refine wc_inv (fun i : Nat => ⟨[(6, .int .i64 i), (5, .own 65 0 (opsK (nOf bl) zs i).length 3 none), (4, .int .i64 (nOf bl)), (1, .ptr 64 [])], [(64, some (.box 24 (.d (encO bl zs)))), (65, some (.ds 47 3 false encOp (opsK (nOf bl) zs i)))], 72, Try.f14.ntmps, 64⟩) (fun i => i ≤ zs.length ∧ i ≤ 30) (fun i => zs.length - i) 0 [(65, none)] ⟨Nat.zero_le _, Nat.zero_le _⟩
    (.of rfl rfl rfl rfl rfl ⟨⟨_, rfl, .refl _⟩, rfl, ⟨_, rfl, .refl _⟩, rfl, ⟨_, rfl, .refl _⟩, rfl, ⟨_, rfl, .refl _⟩, rfl, trivial⟩ ⟨⟨rfl, rfl, _, rfl, .refl _⟩, ⟨rfl, rfl, rfl⟩, trivial⟩) ?_
  rintro i ⟨hi1, hi2⟩
  refine wc_of ?_
  refine wc_seq ?_
  refine wc_seq_cut 20 (.bool (decide ((i : Int) < zs.length) && decide ((i : Int) < 30))) _ rfl ?_ ?_
  · refine reg_quiet rfl (step_C tab_ok (fun K hk => hk)) ?_
    refine reg_quiet rfl (step_C tab_ok (fun K hk => hk)) ?_
    refine reg_quiet rfl (load_box tab_ok rfl rfl ⟨_, rfl, rfl⟩ rfl) ?_
    refine reg_quiet rfl (len_arr tab_ok rfl rfl) ?_
    refine reg_quiet rfl (step_C tab_ok (fun K hk => hk)) ?_
    refine reg_quiet rfl (step_C tab_ok (fun K hk => hk)) ?_
    refine reg_split rfl rfl rfl (fun hb => ?_) (fun hb => ?_)
    refine reg_on rfl rfl (by assumption) ?_
    refine reg_quiet rfl (step_C tab_ok (fun K hk => hk)) ?_
    refine reg_on rfl rfl (by assumption) ?_
    refine reg_quiet rfl (step_C tab_ok (fun K hk => hk)) ?_
    refine reg_quiet rfl (pick_T tab_ok rfl (by assumption) rfl) ?_
    rotate_left
    refine reg_skip rfl rfl (by assumption) rfl rfl ?_
    refine reg_skip rfl rfl (by assumption) rfl rfl ?_
    refine reg_quiet rfl (pick_F tab_ok rfl (by assumption) rfl) ?_
    rotate_left
    all_goals refine reg_cut 9 rfl rfl rfl rfl rfl rfl rfl rfl rfl (AVLe.of_eq ?_)
    all_goals (first | rfl | (clear q5; simp_all; done) | (simp_all; done) | (simp_all; omega))
  refine wc_cond rfl (fun h1 => ?_) (fun h1 => ?_)
  · rw [Bool.and_eq_true] at h1
    have hlt : i < zs.length := by have := of_decide_eq_true h1.1; omega
    have hlt2 : i < 30 := by have := of_decide_eq_true h1.2; omega
    obtain ⟨z0, z1, z2, hz0, b0, b1, b2⟩ := three_get hz3 hlt
    have hz : zs[((i : Int)).toNat]? = some [z0, z1, z2] := by rw [Int.toNat_natCast]; exact hz0
    have hlen : (opsK (nOf bl) zs i).length + 1 ≤ 1048576 := by rw [opsK_len hi1]; omega
    have hs := opsK_succ (n := nOf bl) hz0
    have hsl : (opsK (nOf bl) zs (i + 1)).length = (opsK (nOf bl) zs i).length + 1 := by rw [opsK_len hi1, opsK_len hlt]
    refine wc_skip ?_
    refine seq_n ?_
    refine wc_seq ?_
    refine wc_block ?_
    refine wc_region ?_
    refine reg_quiet rfl (step_C tab_ok (fun K hk => hk)) ?_
    refine reg_quiet rfl (step_C tab_ok (fun K hk => hk)) ?_
    refine reg_quiet rfl (step_C tab_ok (fun K hk => hk)) ?_
    refine reg_quiet rfl (load_box tab_ok rfl rfl ⟨_, rfl, rfl⟩ rfl) ?_
    refine reg_quiet rfl (step_C tab_ok (fun K hk => hk)) ?_
    refine reg_quiet rfl (index_arr tab_ok rfl rfl rfl rfl rfl (by omega) hz) ?_
    refine reg_quiet rfl (load_i tab_ok rfl rfl) ?_
    refine reg_quiet rfl (call_r (op_is (nOf bl) z0 z1 z2 b0 b1 hn) rfl rfl (arg_e (arg_e arg_nil)) (.inl rfl) (fun _ => rfl)) ?_
    refine reg_new (build_slice tab_ok rfl rfl rfl rfl rfl rfl rfl rfl) rfl ?_
    refine reg_new2 (append_one (s := 3) (enc := encOp) tab_ok (opOf (nOf bl) z0 z1 z2) rfl rfl rfl rfl rfl rfl rfl rfl rfl hlen rfl) rfl ?_
    refine reg_quiet rfl (step_C tab_ok (fun K hk => hk)) ?_
    refine reg_nil ?_
    refine blk_n ?_
    refine seq_n ?_
    refine wc_region ?_
    refine reg_quiet rfl (step_C tab_ok (fun K hk => hk)) ?_
    refine reg_quiet rfl (add_int tab_ok rfl rfl (wrap_i64 (by omega) (by omega))) ?_
    refine reg_quiet rfl (step_C tab_ok (fun K hk => hk)) ?_
    refine reg_nil ?_
    refine loop_n (i + 1) [(65, some 216)] ⟨hlt, hlt2⟩ (by omega) ?_
    exact .of rfl rfl rfl rfl rfl ⟨⟨_, rfl, .refl _⟩, rfl, ⟨_, rfl, .of_eq (by rw [hsl]; rfl)⟩, rfl, ⟨_, rfl, .refl _⟩, rfl, ⟨_, rfl, .refl _⟩, rfl, trivial⟩ ⟨⟨rfl, rfl, _, rfl, .refl _⟩, ⟨rfl, rfl, _, rfl, .of_eq (by rw [hs]; rfl)⟩, trivial⟩
  · have he : i = min zs.length 30 := by
      rw [Bool.and_eq_false_iff] at h1
      rcases h1 with h1 | h1 <;> have := of_decide_eq_false h1 <;> omega
    subst he
    refine wc_exit ?_
    refine seq_x ?_
    refine loop_x ?_
    refine blk_x ?_
    refine seq_n ?_
    refine wc_seq ?_
    refine wc_region ?_
    refine reg_quiet rfl (step_C tab_ok (fun K hk => hk)) ?_
    refine reg_quiet rfl (step_C tab_ok (fun K hk => hk)) ?_
    refine reg_quiet rfl (step_C tab_ok (fun K hk => hk)) ?_
    refine reg_quiet rfl (step_C tab_ok (fun K hk => hk)) ?_
    refine reg_nil ?_
    refine seq_n ?_
    refine wc_ret ?_
    exact ⟨trivial, [(64, some 65)], .of rfl rfl rfl rfl rfl ⟨⟨_, rfl, AVLe.of_eq rfl⟩, rfl, trivial⟩ ⟨⟨rfl, rfl, _, rfl, .refl _⟩, trivial⟩⟩
theorem RowLe.noex {α : Type} {t s : Nat} {enc : α → D} {xs : List α} {ex : Bool} : RowLe (.ds t s ex enc xs) (.ds t s false enc xs) := by
  rintro σ w X r (h | ⟨b, c, cur, h1, _, h2⟩)
  · exact .inl h
  · exact .inr ⟨b, c, cur, h1, (fun e => by cases e), h2⟩
/-- The array after the first operations. -/
def runF (x : Blks × Blks) (l : List Oper) : Nat → Blks × Blks
  | 0 => x
  | k + 1 => match l[k]? with
    | some o => (doA (runF x l k).1 o, doB (runF x l k).1 (runF x l k).2 o)
    | none => runF x l k
abbrev runK (N : Nat) (l : List Oper) (k : Nat) : Blks × Blks := runF (zeros N, zeros N) l k
structure Good (N : Nat) (x : Blks × Blks) : Prop where
  l1 : x.1.length = N
  l2 : x.2.length = N
  b1 : ∀ y ∈ x.1, y.length = 32
  b2 : ∀ y ∈ x.2, y.length = 32
theorem doA_good {a : Blks} {o : Oper} (h : ∀ y ∈ a, y.length = 32) : ∀ y ∈ doA a o, y.length = 32 := by
  intro y hy
  unfold doA at hy
  split at hy
  · exact h y hy
  · rename_i hb
    split at hy
    · rename_i hk
      rcases List.mem_or_eq_of_mem_set hy with hy | rfl
      · exact h y hy
      · rcases good_op (show badOp a.length o = false by simpa using hb) with ⟨h1, _⟩ | ⟨_, _, _, h4⟩ | h1
        · omega
        · exact h4
        · omega
    · exact h y hy
theorem doB_good {a b : Blks} {o : Oper} (h : ∀ y ∈ a, y.length = 32) (h2 : ∀ y ∈ b, y.length = 32) : ∀ y ∈ doB a b o, y.length = 32 := by
  intro y hy
  unfold doB at hy
  split at hy
  · exact h2 y hy
  · split at hy
    · exact h y hy
    · exact h2 y hy
theorem good_do {N : Nat} {x : Blks × Blks} (h : Good N x) (o : Oper) : Good N (doA x.1 o, doB x.1 x.2 o) :=
  ⟨by rw [doA_len]; exact h.l1, by rw [doB_len _ _ _ (h.l1.trans h.l2.symm)]; exact h.l2, doA_good h.b1, doB_good h.b1 h.b2⟩
theorem zeros_good (N : Nat) : Good N (zeros N, zeros N) :=
  ⟨List.length_replicate, List.length_replicate, fun y hy => by rw [List.eq_of_mem_replicate hy]; rfl, fun y hy => by rw [List.eq_of_mem_replicate hy]; rfl⟩
theorem runF_good {N : Nat} {x : Blks × Blks} (hx : Good N x) (l : List Oper) : ∀ k, Good N (runF x l k)
  | 0 => hx
  | k + 1 => by
    have h := runF_good hx l k
    unfold runF
    cases l[k]? with
    | none => exact h
    | some o => exact good_do h o
theorem run_good (N : Nat) (l : List Oper) (k : Nat) : Good N (runK N l k) := runF_good (zeros_good N) l k
theorem runF_succ {x : Blks × Blks} {l : List Oper} {k : Nat} {o : Oper} (h : l[k]? = some o) : runF x l (k + 1) = (doA (runF x l k).1 o, doB (runF x l k).1 (runF x l k).2 o) := by rw [runF, h]
theorem run_succ {N : Nat} {l : List Oper} {k : Nat} {o : Oper} (h : l[k]? = some o) : runK N l (k + 1) = (doA (runK N l k).1 o, doB (runK N l k).1 (runK N l k).2 o) := runF_succ h
def runAll (N : Nat) (l : List Oper) : Blks × Blks := runK N l l.length
theorem block_plain (l : List Int) : (encBlock l).plain := fun _ => trivial
theorem rows_plain (a b : Blks) (e1 e2 : Bool) : ∀ r row, lk [(64, rowB e1 a), (65, rowB e2 b)] r = some row → row.plain := plain_rows_cons (fun l => block_plain l) (plain_rows_cons (fun l => block_plain l) plain_rows_nil)
theorem refN_plain (n m : Nat) (a2 b2 : Blks) (v : List Int) (e : Int) (e1 e2 : Bool) : PlainRes (tup3 (ownA 64 n none 65 m none) (.d (encBlock v)) (.int .i64 e)) [(64, rowB e1 a2), (65, rowB e2 b2)] :=
  .of ⟨⟨trivial, trivial, trivial⟩, block_plain v, trivial, trivial⟩ (rows_plain _ _ _ _)
theorem ref_is (bl : Int) (zs : List (List Int)) (hbl : 0 ≤ bl ∧ bl ≤ 255) (hz3 : Three zs) (N : Nat) (hN : nOf bl = N) : FnIs Try.prog 25 [.d (encO bl zs)] [] (ownA 64 N none 65 N none) [(64, rowB false (runAll N (opsOf bl zs)).1), (65, rowB false (runAll N (opsOf bl zs)).2)] := by
  have hnb := nOf_bound hbl
  have hNew := refnew_is N (by omega)
  rw [← hN] at hNew
  have hll : (opsOf bl zs).length ≤ 30 := by rw [opsOf, opsK_len (by omega)]; omega
  unfold runAll
  generalize hl : opsOf bl zs = l at *
  have hOf := of_is bl zs hbl hz3
  rw [hl] at hOf
  refine fnIs_of tab_ok Try.func25 rfl rfl rfl ?_
  refine wc_seq ?_
  refine wc_region ?_
  refine reg_new (step_C tab_ok (fun K hk => hk)) rfl ?_
  refine reg_new (step_C tab_ok (fun K hk => hk)) rfl ?_
  refine reg_nil ?_
  refine seq_n ?_
  refine wc_seq ?_
  refine wc_region ?_
  refine reg_quiet rfl (load_box tab_ok rfl rfl rfl rfl) ?_
  refine reg_new (call_new hOf rfl rfl (arg_e arg_nil) (.inl rfl) rfl rfl) rfl ?_
  refine reg_quiet rfl (step_C tab_ok (fun K hk => hk)) ?_
  refine reg_quiet rfl (step_C tab_ok (fun K hk => hk)) ?_
  refine reg_quiet rfl (step_C tab_ok (fun K hk => hk)) ?_
  refine reg_quiet rfl (step_C tab_ok (fun K hk => hk)) ?_
  refine reg_quiet rfl (step_C tab_ok (fun K hk => hk)) ?_
  refine reg_nil ?_
  refine seq_n ?_
  refine wc_seq ?_
  refine wc_region ?_
  refine reg_quiet rfl (step_C tab_ok (fun K hk => hk)) ?_
  refine reg_new2 (call_new hNew rfl rfl (arg_e arg_nil) (.inl rfl) rfl rfl) rfl ?_
  refine reg_new (step_C tab_ok (fun K hk => hk)) rfl ?_
  refine reg_store (store_row tab_ok rfl rfl rfl ⟨_, ⟨rfl, rfl, rfl⟩, rfl⟩ rfl) ?_
  refine reg_nil ?_
  refine seq_n ?_
  refine wc_seq ?_
  refine wc_seq ?_
  refine wc_region ?_
  refine reg_quiet rfl (step_C tab_ok (fun K hk => hk)) ?_
  refine reg_nil ?_
  refine seq_n ?_
  refine wc_block ?_
  refine wc_inv (fun i : Nat => ⟨[(6, .int .i64 i), (4, .own 66 0 l.length 3 none), (5, .ptr 64 []), (2, .ptr 69 [])], [(64, some (.box 35 (ownA 67 N none 68 N none))), (66, some (.ds 47 3 false encOp l)), (67, some (rowB false (runK N l i).1)), (68, some (rowB false (runK N l i).2)), (69, some (.box 35 (.d zeroA)))], 72, Try.f25.ntmps, 64⟩) (fun i => i ≤ l.length) (fun i => l.length - i) 0 [(64, some 152), (66, some 88), (67, some 144), (68, some 145), (69, some 72)] (Nat.zero_le _)
    (.of rfl rfl rfl rfl rfl ⟨⟨_, rfl, .refl _⟩, rfl, ⟨_, rfl, .refl _⟩, rfl, ⟨_, rfl, .refl _⟩, rfl, ⟨_, rfl, .refl _⟩, rfl, trivial⟩ ⟨⟨rfl, rfl, _, rfl, .refl _⟩, ⟨rfl, rfl, _, rfl, .refl _⟩, ⟨rfl, rfl, _, rfl, RowLe.noex⟩, ⟨rfl, rfl, _, rfl, RowLe.noex⟩, ⟨rfl, rfl, _, rfl, .refl _⟩, trivial⟩) ?_
  intro i hi
  have hg := run_good N l i
  refine wc_of ?_
  refine wc_seq ?_
  refine wc_seq ?_
  refine wc_region ?_
  refine reg_quiet rfl (step_C tab_ok (fun K hk => hk)) ?_
  refine reg_quiet rfl (step_C tab_ok (fun K hk => hk)) ?_
  refine reg_quiet rfl (len_own tab_ok rfl rfl) ?_
  refine reg_quiet rfl (step_C tab_ok (fun K hk => hk)) ?_
  refine reg_nil ?_
  refine seq_n ?_
  refine wc_cond rfl (fun h1 => ?_) (fun h1 => ?_)
  · have hlt : i < l.length := by have := of_decide_eq_true h1; omega
    obtain ⟨o, ho0⟩ : ∃ o, l[i]? = some o := ⟨_, List.getElem?_eq_getElem hlt⟩
    have ho : l[((i : Int)).toNat]? = some o := by rw [Int.toNat_natCast]; exact ho0
    have hDo := refdo_is (runK N l i).1 (runK N l i).2 o (hg.l1.trans hg.l2.symm) (by rw [hg.l1]; omega) (by rw [hg.l1]; omega) hg.b1
    have hg1 : N = (runK N l i).1.length := hg.l1.symm
    have hg2 : N = (runK N l i).2.length := hg.l2.symm
    have hs := run_succ (N := N) ho0
    simp only [refR, ownN, hg.l1, hg.l2] at hDo
    refine wc_skip ?_
    refine seq_n ?_
    refine wc_seq ?_
    refine wc_block ?_
    refine wc_draw (by kernel_rfl) ?_
    refine dreg_q [5] [64, 67, 68] rfl (load_box tab_ok rfl rfl rfl rfl) ?_
    refine dreg_q [4] [66] rfl (step_C tab_ok (fun K hk => hk)) ?_
    refine dreg_q [6] [] rfl (step_C tab_ok (fun K hk => hk)) ?_
    refine dreg_q [22, 23] [66] rfl (index_own tab_ok rfl rfl rfl rfl rfl (by omega) (by omega)) ?_
    refine dreg_q [24] [66] rfl (load_row (v := .d (encOp o)) tab_ok rfl rfl ⟨rfl, o, ho, encOp o, rfl, rfl⟩ rfl) ?_
    refine dreg_w2 [21, 25] [67, 68] rfl (call_new hDo rfl rfl (arg_A rfl rfl hg1 hg2 (arg_e arg_nil)) (.inr (refN_plain _ _ _ _ _ _ _ _)) rfl rfl) ?_
    refine dreg_q [26] [144, 145] rfl (step_C tab_ok (fun K hk => hk)) ?_
    refine dreg_q [20] [144, 145] rfl (step_C tab_ok (fun K hk => hk)) ?_
    refine dreg_q [20] [144, 145] rfl (step_C tab_ok (fun K hk => hk)) ?_
    refine dreg_q [20] [144, 145] rfl (step_C tab_ok (fun K hk => hk)) ?_
    refine dreg_s [5, 27] [64, 144, 145, 67, 68] (store_row tab_ok rfl rfl rfl ⟨_, ⟨rfl, rfl, rfl⟩, rfl⟩ rfl) ?_
    refine dreg_end (by kernel_rfl) ?_
    refine blk_n ?_
    refine seq_n ?_
    refine wc_region ?_
    refine reg_quiet rfl (step_C tab_ok (fun K hk => hk)) ?_
    refine reg_quiet rfl (add_int tab_ok rfl rfl (wrap_i64 (by omega) (by omega))) ?_
    refine reg_quiet rfl (step_C tab_ok (fun K hk => hk)) ?_
    refine reg_nil ?_
    refine loop_n (i + 1) [(67, some 144), (68, some 145)] hlt (show l.length - (i + 1) < l.length - i by omega) ?_
    exact .of rfl rfl rfl rfl rfl ⟨⟨_, rfl, .refl _⟩, rfl, ⟨_, rfl, .refl _⟩, rfl, ⟨_, rfl, .refl _⟩, rfl, ⟨_, rfl, .refl _⟩, rfl, trivial⟩ ⟨⟨rfl, rfl, _, rfl, .refl _⟩, ⟨rfl, rfl, _, rfl, .refl _⟩, ⟨rfl, rfl, _, rfl, .of_eq (by rw [hs]; rfl)⟩, ⟨rfl, rfl, _, rfl, .of_eq (by rw [hs]; rfl)⟩, ⟨rfl, rfl, _, rfl, .refl _⟩, trivial⟩
  · obtain rfl : i = l.length := by have := of_decide_eq_false h1; omega
    refine wc_exit ?_
    refine seq_x ?_
    refine loop_x ?_
    refine blk_x ?_
    refine seq_n ?_
    refine wc_seq ?_
    refine wc_region ?_
    refine reg_quiet rfl (load_box tab_ok rfl rfl rfl rfl) ?_
    refine reg_store (store_row tab_ok rfl rfl rfl ⟨_, ⟨rfl, rfl, rfl⟩, rfl⟩ rfl) ?_
    refine reg_nil ?_
    refine seq_n ?_
    refine wc_ret ?_
    exact ⟨trivial, _, rfl, [(64, some 67), (65, some 68)], .of rfl rfl rfl rfl rfl ⟨⟨_, rfl, AVLe.of_eq rfl⟩, rfl, trivial⟩ ⟨⟨rfl, rfl, _, rfl, .refl _⟩, ⟨rfl, rfl, _, rfl, .refl _⟩, trivial⟩⟩
end Go.Proofs.Ytjpjchohpjbknaa

/- Arrays: Play. -/
namespace Go.Proofs.Ytjpjchohpjbknaa
open Go.Eng
set_option maxHeartbeats 2000000
attribute [local irreducible] WC RegS RegD SeqQ BlkQ ScoQ RegK CutK Sat SatN FnIs LoopQ StepIs OpIs
section
variable {α : Type}
def mixG (d x : List α) (i : Nat) : List α := d.take i ++ x.drop i
theorem mixG_len {d x : List α} {i : Nat} (h : d.length = x.length) : (mixG d x i).length = x.length := by simp [mixG]; omega
theorem mixG_get {d x : List α} {i : Nat} (h : d.length = x.length) (hi : i < x.length) : ∃ v, (mixG d x i)[i]? = some v := by
  have := mixG_len (i := i) h
  exact ⟨(mixG d x i)[i]'(by omega), by simp [show i < (mixG d x i).length by omega]⟩
theorem mixG_set {d x : List α} {i : Nat} {v : α} (h : d.length = x.length) (hi : i < x.length) (hv : d[i]? = some v) : (mixG d x i).set i v = mixG d x (i + 1) := by
  refine List.ext_getElem? fun j => ?_
  have hl := mixG_len (i := i) h
  have htl : (d.take i).length = i := by simp; omega
  have htl2 : (d.take (i + 1)).length = i + 1 := by simp; omega
  rw [List.getElem?_set]
  by_cases e : i = j
  · subst e
    rw [if_pos rfl, if_pos (by omega), mixG, List.getElem?_append_left (by omega), List.getElem?_take, if_pos (by omega), hv]
  · rw [if_neg e, mixG, mixG]
    by_cases hj : j < i
    · rw [List.getElem?_append_left (by omega), List.getElem?_append_left (by omega), List.getElem?_take, List.getElem?_take, if_pos hj, if_pos (by omega)]
    · rw [List.getElem?_append_right (by omega), List.getElem?_append_right (by omega), htl, htl2, List.getElem?_drop, List.getElem?_drop]
      congr 1; omega
theorem mixG_zero (d x : List α) : mixG d x 0 = x := by simp [mixG]
theorem mixG_full {d x : List α} (h : d.length = x.length) : mixG d x x.length = d := by
  have e1 : d.take x.length = d := List.take_of_length_le (by omega)
  rw [mixG, e1, List.drop_length, List.append_nil]
end
abbrev zeroRes : Res := ⟨zeroBlock, 0⟩
def resL (x : Blks × Blks) (l : List Oper) : List Res := (List.range l.length).map fun (j : Nat) => match l[j]? with
  | some o => doR (runF x l j).1 o
  | none => zeroRes
theorem resL_len (x : Blks × Blks) (l : List Oper) : (resL x l).length = l.length := by simp [resL]
theorem resL_get {x : Blks × Blks} {l : List Oper} {j : Nat} {o : Oper} (h : l[j]? = some o) : (resL x l)[j]? = some (doR (runF x l j).1 o) := by
  have hj := (List.getElem?_eq_some_iff.1 h).1
  have e := (List.getElem?_eq_some_iff.1 h).2
  simp [resL, hj, e]
abbrev encR : Res → D := encRes
abbrev zeroRs (L : Nat) : List Res := List.replicate L zeroRes
abbrev errP (e : Int) : AV := tup3 (.d zeroA) (.d (.sc nil_)) (.int .i64 e)
theorem play_bad (a b : Blks) (l : List Oper) (h : okA a b = false) : FnIs Try.prog 18 [.d (encA a b), .d (.arr 3 encOp l)] [] (errP 1) [] := by
  have hC := check_is a b
  rw [h, if_neg (by simp)] at hC
  refine fnIs_of tab_ok Try.func18 rfl rfl rfl ?_
  refine wc_seq ?_
  refine wc_region ?_
  refine reg_new (step_C tab_ok (fun K hk => hk)) rfl ?_
  refine reg_new (step_C tab_ok (fun K hk => hk)) rfl ?_
  refine reg_quiet rfl (step_C tab_ok (fun K hk => hk)) ?_
  refine reg_quiet rfl (step_C tab_ok (fun K hk => hk)) ?_
  refine reg_nil ?_
  refine seq_n ?_
  refine wc_seq ?_
  refine wc_seq ?_
  refine wc_region ?_
  refine reg_quiet rfl (load_box tab_ok rfl rfl rfl rfl) ?_
  refine reg_quiet rfl (call_r hC rfl rfl (arg_e arg_nil) (.inl rfl) (fun _ => rfl)) ?_
  refine reg_quiet rfl (step_C tab_ok (fun K hk => hk)) ?_
  refine reg_nil ?_
  refine seq_n ?_
  refine wc_seq ?_
  refine wc_region ?_
  refine reg_quiet rfl (step_C tab_ok (fun K hk => hk)) ?_
  refine reg_quiet rfl (step_C tab_ok (fun K hk => hk)) ?_
  refine reg_nil ?_
  refine seq_n ?_
  refine wc_true rfl rfl ?_
  refine wc_seq ?_
  refine wc_region ?_
  refine reg_quiet rfl (build_struct tab_ok rfl rfl rfl rfl) ?_
  refine reg_quiet rfl (step_C tab_ok (fun K hk => hk)) ?_
  refine reg_store (store_row tab_ok rfl rfl rfl ⟨_, ⟨rfl, rfl, rfl⟩, rfl⟩ rfl) ?_
  refine reg_quiet rfl (step_C tab_ok (fun K hk => hk)) ?_
  refine reg_quiet rfl (step_C tab_ok (fun K hk => hk)) ?_
  refine reg_nil ?_
  refine seq_n ?_
  refine wc_ret ?_
  refine seq_r ?_
  exact ⟨trivial, _, rfl, [], .of rfl rfl rfl rfl rfl ⟨⟨_, rfl, AVLe.of_eq rfl⟩, rfl, trivial⟩ trivial⟩
theorem play_many (a b : Blks) (l : List Oper) (h : okA a b = true) (hl : decide ((l.length : Int) > 256) = true) : FnIs Try.prog 18 [.d (encA a b), .d (.arr 3 encOp l)] [] (errP 3) [] := by
  have hC := check_is a b
  rw [h, if_pos rfl] at hC
  refine fnIs_of tab_ok Try.func18 rfl rfl rfl ?_
  refine wc_seq ?_
  refine wc_region ?_
  refine reg_new (step_C tab_ok (fun K hk => hk)) rfl ?_
  refine reg_new (step_C tab_ok (fun K hk => hk)) rfl ?_
  refine reg_quiet rfl (step_C tab_ok (fun K hk => hk)) ?_
  refine reg_quiet rfl (step_C tab_ok (fun K hk => hk)) ?_
  refine reg_nil ?_
  refine seq_n ?_
  refine wc_seq ?_
  refine wc_seq ?_
  refine wc_region ?_
  refine reg_quiet rfl (load_box tab_ok rfl rfl rfl rfl) ?_
  refine reg_quiet rfl (call_r hC rfl rfl (arg_e arg_nil) (.inl rfl) (fun _ => rfl)) ?_
  refine reg_quiet rfl (step_C tab_ok (fun K hk => hk)) ?_
  refine reg_nil ?_
  refine seq_n ?_
  refine wc_seq ?_
  refine wc_region ?_
  refine reg_quiet rfl (step_C tab_ok (fun K hk => hk)) ?_
  refine reg_quiet rfl (step_C tab_ok (fun K hk => hk)) ?_
  refine reg_nil ?_
  refine seq_n ?_
  refine wc_false rfl rfl ?_
  refine wc_skip ?_
  refine seq_n ?_
  refine wc_seq ?_
  refine wc_seq ?_
  refine wc_region ?_
  refine reg_quiet rfl (step_C tab_ok (fun K hk => hk)) ?_
  refine reg_quiet rfl (len_arr tab_ok rfl rfl) ?_
  refine reg_quiet rfl (step_C tab_ok (fun K hk => hk)) ?_
  refine reg_nil ?_
  refine seq_n ?_
  refine wc_true rfl (by assumption) ?_
  refine wc_seq ?_
  refine wc_region ?_
  refine reg_quiet rfl (build_struct tab_ok rfl rfl rfl rfl) ?_
  refine reg_store (store_row tab_ok rfl rfl rfl ⟨_, ⟨rfl, rfl, rfl⟩, rfl⟩ rfl) ?_
  refine reg_quiet rfl (step_C tab_ok (fun K hk => hk)) ?_
  refine reg_quiet rfl (step_C tab_ok (fun K hk => hk)) ?_
  refine reg_nil ?_
  refine seq_n ?_
  refine wc_ret ?_
  refine seq_r ?_
  exact ⟨trivial, _, rfl, [], .of rfl rfl rfl rfl rfl ⟨⟨_, rfl, AVLe.of_eq rfl⟩, rfl, trivial⟩ trivial⟩
theorem play_ok (a b : Blks) (l : List Oper) (N : Nat) (hg : Good N (a, b)) (h : okA a b = true) (hl : decide ((l.length : Int) > 256) = false) : FnIs Try.prog 18 [.d (encA a b), .d (.arr 3 encOp l)] []
    (tup3 (ownA 64 N (some N) 65 N (some N)) (.own 66 0 l.length 33 none) (.int .i64 0)) [(64, rowB false (runF (a, b) l l.length).1), (65, rowB false (runF (a, b) l l.length).2), (66, .ds 49 33 true encRes (resL (a, b) l))] := by
  have hC := check_is a b
  rw [h, if_pos rfl] at hC
  obtain ⟨hla, hla2, hab⟩ := okA_len h
  have e1 : a.length = N := hg.l1
  have e2 : b.length = N := hg.l2
  have hV := value_is a b hla (by omega) (by omega) (by omega)
  simp only [e1, e2] at hV
  have hl256 : l.length ≤ 256 := by have := of_decide_eq_false hl; omega
  have hlen2 : l.length ≤ 1048576 := by omega
  have hrl : (resL (a, b) l).length = (zeroRs l.length).length := by rw [resL_len, List.length_replicate]
  have hzl : (zeroRs l.length).length = l.length := List.length_replicate
  refine fnIs_of tab_ok Try.func18 rfl rfl rfl ?_
  refine wc_seq ?_
  refine wc_region ?_
  refine reg_new (step_C tab_ok (fun K hk => hk)) rfl ?_
  refine reg_new (step_C tab_ok (fun K hk => hk)) rfl ?_
  refine reg_quiet rfl (step_C tab_ok (fun K hk => hk)) ?_
  refine reg_quiet rfl (step_C tab_ok (fun K hk => hk)) ?_
  refine reg_nil ?_
  refine seq_n ?_
  refine wc_seq ?_
  refine wc_seq ?_
  refine wc_region ?_
  refine reg_quiet rfl (load_box tab_ok rfl rfl rfl rfl) ?_
  refine reg_quiet rfl (call_r hC rfl rfl (arg_e arg_nil) (.inl rfl) (fun _ => rfl)) ?_
  refine reg_quiet rfl (step_C tab_ok (fun K hk => hk)) ?_
  refine reg_nil ?_
  refine seq_n ?_
  refine wc_seq ?_
  refine wc_region ?_
  refine reg_quiet rfl (step_C tab_ok (fun K hk => hk)) ?_
  refine reg_quiet rfl (step_C tab_ok (fun K hk => hk)) ?_
  refine reg_nil ?_
  refine seq_n ?_
  refine wc_false rfl rfl ?_
  refine wc_skip ?_
  refine seq_n ?_
  refine wc_seq ?_
  refine wc_seq ?_
  refine wc_region ?_
  refine reg_quiet rfl (step_C tab_ok (fun K hk => hk)) ?_
  refine reg_quiet rfl (len_arr tab_ok rfl rfl) ?_
  refine reg_quiet rfl (step_C tab_ok (fun K hk => hk)) ?_
  refine reg_nil ?_
  refine seq_n ?_
  refine wc_false rfl (by assumption) ?_
  refine wc_skip ?_
  refine seq_n ?_
  refine wc_seq ?_
  refine wc_region ?_
  refine reg_quiet rfl (load_box tab_ok rfl rfl rfl rfl) ?_
  refine reg_new2 (call_new hV rfl rfl (arg_e arg_nil) (.inl rfl) rfl rfl) rfl ?_
  refine reg_new (step_C tab_ok (fun K hk => hk)) rfl ?_
  refine reg_store (store_row tab_ok rfl rfl rfl ⟨_, ⟨rfl, rfl, rfl⟩, rfl⟩ rfl) ?_
  refine reg_nil ?_
  refine seq_n ?_
  refine wc_seq ?_
  refine wc_region ?_
  refine reg_quiet rfl (step_C tab_ok (fun K hk => hk)) ?_
  refine reg_quiet rfl (len_arr tab_ok rfl rfl) ?_
  refine reg_new (make_full (enc := encRes) (s := 33) (N := l.length) tab_ok zeroRes rfl rfl rfl rfl rfl rfl rfl hlen2 rfl) rfl ?_
  refine reg_quiet rfl (step_C tab_ok (fun K hk => hk)) ?_
  refine reg_nil ?_
  refine seq_n ?_
  refine wc_seq ?_
  refine wc_seq ?_
  refine wc_region ?_
  refine reg_quiet rfl (step_C tab_ok (fun K hk => hk)) ?_
  refine reg_quiet rfl (len_arr tab_ok rfl rfl) ?_
  refine reg_quiet rfl (step_C tab_ok (fun K hk => hk)) ?_
  refine reg_nil ?_
  refine seq_n ?_
  refine wc_block ?_
  refine wc_inv (fun i : Nat => ⟨[(29, .int .i64 i), (28, .int .i64 l.length), (27, .d (.arr 3 encOp l)), (9, .own 67 0 l.length 33 none), (8, .ptr 64 []), (4, .ptr 68 [])], [(64, some (.box 30 (ownA 65 N (some N) 66 N (some N)))), (65, some (rowB false (runF (a, b) l i).1)), (66, some (rowB false (runF (a, b) l i).2)), (67, some (.ds 49 33 true encRes (mixG (resL (a, b) l) (zeroRs l.length) i))), (68, some (.box 30 (.d zeroA)))], 72, Try.f18.ntmps, 64⟩) (fun i => i ≤ l.length) (fun i => l.length - i) 0 [(64, some 176), (65, some 168), (66, some 169), (67, some 208), (68, some 72)] (Nat.zero_le _)
    (.of rfl rfl rfl rfl rfl ⟨⟨_, rfl, .refl _⟩, rfl, ⟨_, rfl, .refl _⟩, rfl, ⟨_, rfl, .refl _⟩, rfl, ⟨_, rfl, .refl _⟩, rfl, ⟨_, rfl, .refl _⟩, rfl, ⟨_, rfl, .refl _⟩, rfl, trivial⟩ ⟨⟨rfl, rfl, _, rfl, .refl _⟩, ⟨rfl, rfl, _, rfl, .refl _⟩, ⟨rfl, rfl, _, rfl, .refl _⟩, ⟨rfl, rfl, _, rfl, .of_eq (by rw [mixG_zero]; rfl)⟩, ⟨rfl, rfl, _, rfl, .refl _⟩, trivial⟩) ?_
  intro i hi
  have hgi := runF_good hg l i
  refine wc_of ?_
  refine wc_seq ?_
  refine wc_region ?_
  refine reg_quiet rfl (step_C tab_ok (fun K hk => hk)) ?_
  refine reg_nil ?_
  refine seq_n ?_
  refine wc_seq ?_
  refine wc_cond rfl (fun h1 => ?_) (fun h1 => ?_)
  · have hlt : i < l.length := by have := of_decide_eq_true h1; omega
    obtain ⟨o, ho0⟩ : ∃ o, l[i]? = some o := ⟨_, List.getElem?_eq_getElem hlt⟩
    have ho : l[((i : Int)).toNat]? = some o := by rw [Int.toNat_natCast]; exact ho0
    obtain ⟨u, hu0⟩ := mixG_get (i := i) hrl (by omega)
    have hu : (mixG (resL (a, b) l) (zeroRs l.length) i)[((i : Int)).toNat]? = some u := by rw [Int.toNat_natCast]; exact hu0
    have hDo := do_is (runF (a, b) l i).1 (runF (a, b) l i).2 (some N) (some N) false false o (hgi.l1.trans hgi.l2.symm) (by rw [hgi.l2]; omega)
    have hs := runF_succ (x := (a, b)) ho0
    have hm := mixG_set (i := i) hrl (by omega) (resL_get (x := (a, b)) ho0)
    simp only [arrRows, hgi.l1, hgi.l2] at hDo
    refine wc_skip ?_
    refine seq_n ?_
    refine wc_seq ?_
    refine wc_block ?_
    refine wc_seq ?_
    refine wc_region ?_
    refine reg_quiet rfl (step_C tab_ok (fun K hk => hk)) ?_
    refine reg_quiet rfl (index_arr tab_ok rfl rfl rfl rfl rfl (by omega) ho) ?_
    refine reg_quiet rfl (load_i tab_ok rfl rfl) ?_
    refine reg_new (step_C tab_ok (fun K hk => hk)) rfl ?_
    refine reg_quiet rfl (step_C tab_ok (fun K hk => hk)) ?_
    refine reg_store (store_row tab_ok rfl rfl rfl ⟨_, ⟨rfl, rfl, rfl⟩, rfl⟩ rfl) ?_
    refine reg_nil ?_
    refine seq_n ?_
    refine wc_region ?_
    refine reg_quiet rfl (step_C tab_ok (fun K hk => hk)) ?_
    refine reg_quiet rfl (step_C tab_ok (fun K hk => hk)) ?_
    refine reg_quiet rfl (load_box tab_ok rfl rfl rfl rfl) ?_
    refine reg_do rfl (call_h [(0, some 64), (1, some 65), (2, some 66)] hDo rfl rfl rfl (arg_ptr rfl rfl (arg_e arg_nil)) ⟨⟨rfl, rfl, _, _, rfl, rfl, .refl _⟩, ⟨rfl, rfl, _, _, rfl, rfl, .refl _⟩, ⟨rfl, rfl, _, _, rfl, rfl, .refl _⟩, trivial⟩ rfl rfl (.inl rfl) rfl rfl) rfl rfl ?_
    refine reg_quiet rfl (index_own tab_ok rfl rfl rfl rfl rfl (by omega) (by omega)) ?_
    refine reg_store (store_row tab_ok rfl rfl rfl ⟨rfl, u, doR (runF (a, b) l i).1 o, hu, ⟨rfl, rfl, rfl⟩, rfl⟩ rfl) ?_
    refine reg_nil ?_
    refine blk_n ?_
    refine seq_n ?_
    refine wc_region ?_
    refine reg_quiet rfl (add_int tab_ok rfl rfl (wrap_i64 (by omega) (by omega))) ?_
    refine reg_quiet rfl (step_C tab_ok (fun K hk => hk)) ?_
    refine reg_nil ?_
    refine loop_n (i + 1) [(64, some 64), (65, some 65), (66, some 66), (67, some 67), (68, some 68)] hlt (show l.length - (i + 1) < l.length - i by omega) ?_
    exact .of rfl rfl rfl rfl rfl ⟨⟨_, rfl, .refl _⟩, rfl, ⟨_, rfl, .refl _⟩, rfl, ⟨_, rfl, .refl _⟩, rfl, ⟨_, rfl, .refl _⟩, rfl, ⟨_, rfl, .refl _⟩, rfl, ⟨_, rfl, .refl _⟩, rfl, trivial⟩ ⟨⟨rfl, rfl, _, rfl, .refl _⟩, ⟨rfl, rfl, _, rfl, .of_eq (by rw [hs]; rfl)⟩, ⟨rfl, rfl, _, rfl, .of_eq (by rw [hs]; rfl)⟩, ⟨rfl, rfl, _, rfl, .of_eq (by rw [← hm]; rfl)⟩, ⟨rfl, rfl, _, rfl, .refl _⟩, trivial⟩
  · obtain rfl : i = l.length := by have := of_decide_eq_false h1; omega
    have hf : mixG (resL (a, b) l) (zeroRs l.length) l.length = resL (a, b) l := by
      have := mixG_full hrl
      rwa [hzl] at this
    rw [hf]
    refine wc_exit ?_
    refine seq_x ?_
    refine loop_x ?_
    refine blk_x ?_
    refine seq_n ?_
    refine wc_seq ?_
    refine wc_region ?_
    refine reg_quiet rfl (load_box tab_ok rfl rfl rfl rfl) ?_
    refine reg_quiet rfl (step_C tab_ok (fun K hk => hk)) ?_
    refine reg_store (store_row tab_ok rfl rfl rfl ⟨_, ⟨rfl, rfl, rfl⟩, rfl⟩ rfl) ?_
    refine reg_quiet rfl (step_C tab_ok (fun K hk => hk)) ?_
    refine reg_quiet rfl (step_C tab_ok (fun K hk => hk)) ?_
    refine reg_nil ?_
    refine seq_n ?_
    refine wc_ret ?_
    exact ⟨trivial, _, rfl, [(64, some 65), (65, some 66), (66, some 67)], .of rfl rfl rfl rfl rfl ⟨⟨_, rfl, AVLe.of_eq rfl⟩, rfl, trivial⟩ ⟨⟨rfl, rfl, _, rfl, .refl _⟩, ⟨rfl, rfl, _, rfl, .refl _⟩, ⟨rfl, rfl, _, rfl, .refl _⟩, trivial⟩⟩
end Go.Proofs.Ytjpjchohpjbknaa

/- Arrays: Differ. -/
namespace Go.Proofs.Ytjpjchohpjbknaa
open Go.Eng
set_option maxHeartbeats 2000000
attribute [local irreducible] WC RegS RegD SeqQ BlkQ ScoQ RegK CutK Sat SatN FnIs LoopQ StepIs OpIs
def diffK (a c : Blks) (k : Nat) : List Int := ((List.range k).filter fun (i : Nat) => decide (a[i]? ≠ c[i]?)).map fun (i : Nat) => (i : Int)
theorem diff_len (a c : Blks) (k : Nat) : (diffK a c k).length ≤ k := by
  have := List.length_filter_le (fun (i : Nat) => decide (a[i]? ≠ c[i]?)) (List.range k)
  simp only [diffK, List.length_map]
  simpa using this
theorem diff_yes {a c : Blks} {k : Nat} (h : a[k]? ≠ c[k]?) : diffK a c (k + 1) = diffK a c k ++ [(k : Int)] := by simp [diffK, List.range_succ, List.filter_append, h]
theorem diff_no {a c : Blks} {k : Nat} (h : a[k]? = c[k]?) : diffK a c (k + 1) = diffK a c k := by simp [diffK, List.range_succ, List.filter_append, h]
abbrev errL (e : Int) : AV := .tup (.acons (.d (.sc nil_)) (.acons (.int .i64 e) .anil))
theorem differ_bad1 (a b c d : Blks) (h : okA a b = false) : FnIs Try.prog 31 [.d (encA a b), .d (encA c d)] [] (errL 1) [] := by
  have hC1 := check_is a b
  rw [h, if_neg (by simp)] at hC1
  refine fnIs_of tab_ok Try.func31 rfl rfl rfl ?_
  refine wc_seq ?_
  refine wc_region ?_
  refine reg_new (step_C tab_ok (fun K hk => hk)) rfl ?_
  refine reg_new (step_C tab_ok (fun K hk => hk)) rfl ?_
  refine reg_quiet rfl (step_C tab_ok (fun K hk => hk)) ?_
  refine reg_quiet rfl (step_C tab_ok (fun K hk => hk)) ?_
  refine reg_nil ?_
  refine seq_n ?_
  refine wc_seq ?_
  refine wc_seq ?_
  refine wc_region ?_
  refine reg_quiet rfl (load_box tab_ok rfl rfl rfl rfl) ?_
  refine reg_quiet rfl (load_box tab_ok rfl rfl rfl rfl) ?_
  refine reg_quiet rfl (build_arr_of tab_ok rfl rfl rfl rfl rfl rfl rfl) ?_
  refine reg_quiet rfl (step_C tab_ok (fun K hk => hk)) ?_
  refine reg_nil ?_
  refine seq_n ?_
  refine wc_block ?_
  refine wc_inv (fun i : Nat => ⟨[(14, .int .i64 i), (13, .d (.cons (encA a b) (.cons (encA c d) .nil))), (2, .ptr 64 []), (3, .ptr 65 [])], [(64, some (.box 30 (.d (encA a b)))), (65, some (.box 30 (.d (encA c d))))], 72, Try.f31.ntmps, 64⟩) (fun i => i ≤ 0) (fun i => 2 - i) 0 [(65, some 72)] (Nat.zero_le _)
    (.of rfl rfl rfl rfl rfl ⟨⟨_, rfl, .refl _⟩, rfl, ⟨_, rfl, .refl _⟩, rfl, ⟨_, rfl, .refl _⟩, rfl, ⟨_, rfl, .refl _⟩, rfl, trivial⟩ ⟨⟨rfl, rfl, _, rfl, .refl _⟩, ⟨rfl, rfl, _, rfl, .refl _⟩, trivial⟩) ?_
  intro i hi
  refine wc_of ?_
  have hc : i = 0 := by omega
  subst hc
  refine wc_seq ?_
  refine wc_region ?_
  refine reg_quiet rfl (step_C tab_ok (fun K hk => hk)) ?_
  refine reg_nil ?_
  refine seq_n ?_
  refine wc_seq ?_
  refine wc_true rfl rfl ?_
  refine wc_skip ?_
  refine seq_n ?_
  refine wc_seq ?_
  refine wc_block ?_
  refine wc_seq ?_
  refine wc_region ?_
  refine reg_quiet rfl (index_vec (k := .i64) (m := 0) tab_ok rfl rfl rfl rfl rfl (by decide) (by decide) rfl rfl) ?_
  refine reg_new (step_C tab_ok (fun K hk => hk)) rfl ?_
  refine reg_store (store_row tab_ok rfl rfl rfl ⟨_, ⟨rfl, rfl, rfl⟩, rfl⟩ rfl) ?_
  refine reg_nil ?_
  refine seq_n ?_
  refine wc_seq ?_
  refine wc_region ?_
  refine reg_quiet rfl (load_box tab_ok rfl rfl rfl rfl) ?_
  refine reg_quiet rfl (call_r hC1 rfl rfl (arg_e arg_nil) (.inl rfl) (fun _ => rfl)) ?_
  refine reg_quiet rfl (step_C tab_ok (fun K hk => hk)) ?_
  refine reg_nil ?_
  refine seq_n ?_
  refine wc_seq ?_
  refine wc_region ?_
  refine reg_quiet rfl (step_C tab_ok (fun K hk => hk)) ?_
  refine reg_quiet rfl (step_C tab_ok (fun K hk => hk)) ?_
  refine reg_nil ?_
  refine seq_n ?_
  refine wc_true rfl rfl ?_
  refine wc_seq ?_
  refine wc_region ?_
  refine reg_quiet rfl (step_C tab_ok (fun K hk => hk)) ?_
  refine reg_quiet rfl (step_C tab_ok (fun K hk => hk)) ?_
  refine reg_quiet rfl (step_C tab_ok (fun K hk => hk)) ?_
  refine reg_nil ?_
  refine seq_n ?_
  refine wc_ret ?_
  refine blk_r ?_
  refine seq_r ?_
  refine loop_r ?_
  refine blk_r ?_
  refine seq_r ?_
  exact ⟨trivial, [], .of rfl rfl rfl rfl rfl ⟨⟨_, rfl, AVLe.of_eq rfl⟩, rfl, trivial⟩ trivial⟩
theorem differ_bad2 (a b c d : Blks) (h1 : okA a b = true) (h2 : okA c d = false) : FnIs Try.prog 31 [.d (encA a b), .d (encA c d)] [] (errL 1) [] := by
  have hC1 := check_is a b
  rw [h1, if_pos rfl] at hC1
  have hC2 := check_is c d
  rw [h2, if_neg (by simp)] at hC2
  refine fnIs_of tab_ok Try.func31 rfl rfl rfl ?_
  refine wc_seq ?_
  refine wc_region ?_
  refine reg_new (step_C tab_ok (fun K hk => hk)) rfl ?_
  refine reg_new (step_C tab_ok (fun K hk => hk)) rfl ?_
  refine reg_quiet rfl (step_C tab_ok (fun K hk => hk)) ?_
  refine reg_quiet rfl (step_C tab_ok (fun K hk => hk)) ?_
  refine reg_nil ?_
  refine seq_n ?_
  refine wc_seq ?_
  refine wc_seq ?_
  refine wc_region ?_
  refine reg_quiet rfl (load_box tab_ok rfl rfl rfl rfl) ?_
  refine reg_quiet rfl (load_box tab_ok rfl rfl rfl rfl) ?_
  refine reg_quiet rfl (build_arr_of tab_ok rfl rfl rfl rfl rfl rfl rfl) ?_
  refine reg_quiet rfl (step_C tab_ok (fun K hk => hk)) ?_
  refine reg_nil ?_
  refine seq_n ?_
  refine wc_block ?_
  refine wc_inv (fun i : Nat => ⟨[(14, .int .i64 i), (13, .d (.cons (encA a b) (.cons (encA c d) .nil))), (2, .ptr 64 []), (3, .ptr 65 [])], [(64, some (.box 30 (.d (encA a b)))), (65, some (.box 30 (.d (encA c d))))], 72, Try.f31.ntmps, 64⟩) (fun i => i ≤ 1) (fun i => 2 - i) 0 [(65, some 72)] (Nat.zero_le _)
    (.of rfl rfl rfl rfl rfl ⟨⟨_, rfl, .refl _⟩, rfl, ⟨_, rfl, .refl _⟩, rfl, ⟨_, rfl, .refl _⟩, rfl, ⟨_, rfl, .refl _⟩, rfl, trivial⟩ ⟨⟨rfl, rfl, _, rfl, .refl _⟩, ⟨rfl, rfl, _, rfl, .refl _⟩, trivial⟩) ?_
  intro i hi
  refine wc_of ?_
  have hc : i = 0 ∨ i = 1 := by omega
  rcases hc with rfl | rfl
  · refine wc_seq ?_
    refine wc_region ?_
    refine reg_quiet rfl (step_C tab_ok (fun K hk => hk)) ?_
    refine reg_nil ?_
    refine seq_n ?_
    refine wc_seq ?_
    refine wc_true rfl rfl ?_
    refine wc_skip ?_
    refine seq_n ?_
    refine wc_seq ?_
    refine wc_block ?_
    refine wc_seq ?_
    refine wc_region ?_
    refine reg_quiet rfl (index_vec (k := .i64) (m := 0) tab_ok rfl rfl rfl rfl rfl (by decide) (by decide) rfl rfl) ?_
    refine reg_new (step_C tab_ok (fun K hk => hk)) rfl ?_
    refine reg_store (store_row tab_ok rfl rfl rfl ⟨_, ⟨rfl, rfl, rfl⟩, rfl⟩ rfl) ?_
    refine reg_nil ?_
    refine seq_n ?_
    refine wc_seq ?_
    refine wc_region ?_
    refine reg_quiet rfl (load_box tab_ok rfl rfl rfl rfl) ?_
    refine reg_quiet rfl (call_r hC1 rfl rfl (arg_e arg_nil) (.inl rfl) (fun _ => rfl)) ?_
    refine reg_quiet rfl (step_C tab_ok (fun K hk => hk)) ?_
    refine reg_nil ?_
    refine seq_n ?_
    refine wc_seq ?_
    refine wc_region ?_
    refine reg_quiet rfl (step_C tab_ok (fun K hk => hk)) ?_
    refine reg_quiet rfl (step_C tab_ok (fun K hk => hk)) ?_
    refine reg_nil ?_
    refine seq_n ?_
    refine wc_false rfl rfl ?_
    refine wc_skip ?_
    refine blk_n ?_
    refine seq_n ?_
    refine wc_region ?_
    refine reg_quiet rfl (add_int tab_ok rfl rfl (wrap_i64 (by omega) (by omega))) ?_
    refine reg_quiet rfl (step_C tab_ok (fun K hk => hk)) ?_
    refine reg_nil ?_
    refine loop_n 1 [(64, some 64), (65, some 65)] (by decide) (by decide) ?_
    exact .of rfl rfl rfl rfl rfl ⟨⟨_, rfl, .refl _⟩, rfl, ⟨_, rfl, .refl _⟩, rfl, ⟨_, rfl, .refl _⟩, rfl, ⟨_, rfl, .refl _⟩, rfl, trivial⟩ ⟨⟨rfl, rfl, _, rfl, .refl _⟩, ⟨rfl, rfl, _, rfl, .refl _⟩, trivial⟩
  · refine wc_seq ?_
    refine wc_region ?_
    refine reg_quiet rfl (step_C tab_ok (fun K hk => hk)) ?_
    refine reg_nil ?_
    refine seq_n ?_
    refine wc_seq ?_
    refine wc_true rfl rfl ?_
    refine wc_skip ?_
    refine seq_n ?_
    refine wc_seq ?_
    refine wc_block ?_
    refine wc_seq ?_
    refine wc_region ?_
    refine reg_quiet rfl (index_vec (k := .i64) (m := 1) tab_ok rfl rfl rfl rfl rfl (by decide) (by decide) rfl rfl) ?_
    refine reg_new (step_C tab_ok (fun K hk => hk)) rfl ?_
    refine reg_store (store_row tab_ok rfl rfl rfl ⟨_, ⟨rfl, rfl, rfl⟩, rfl⟩ rfl) ?_
    refine reg_nil ?_
    refine seq_n ?_
    refine wc_seq ?_
    refine wc_region ?_
    refine reg_quiet rfl (load_box tab_ok rfl rfl rfl rfl) ?_
    refine reg_quiet rfl (call_r hC2 rfl rfl (arg_e arg_nil) (.inl rfl) (fun _ => rfl)) ?_
    refine reg_quiet rfl (step_C tab_ok (fun K hk => hk)) ?_
    refine reg_nil ?_
    refine seq_n ?_
    refine wc_seq ?_
    refine wc_region ?_
    refine reg_quiet rfl (step_C tab_ok (fun K hk => hk)) ?_
    refine reg_quiet rfl (step_C tab_ok (fun K hk => hk)) ?_
    refine reg_nil ?_
    refine seq_n ?_
    refine wc_true rfl rfl ?_
    refine wc_seq ?_
    refine wc_region ?_
    refine reg_quiet rfl (step_C tab_ok (fun K hk => hk)) ?_
    refine reg_quiet rfl (step_C tab_ok (fun K hk => hk)) ?_
    refine reg_quiet rfl (step_C tab_ok (fun K hk => hk)) ?_
    refine reg_nil ?_
    refine seq_n ?_
    refine wc_ret ?_
    refine blk_r ?_
    refine seq_r ?_
    refine loop_r ?_
    refine blk_r ?_
    refine seq_r ?_
    exact ⟨trivial, [], .of rfl rfl rfl rfl rfl ⟨⟨_, rfl, AVLe.of_eq rfl⟩, rfl, trivial⟩ trivial⟩
theorem differ_len (a b c d : Blks) (h1 : okA a b = true) (h2 : okA c d = true) (hl : decide ((a.length : Int) = c.length) = false) : FnIs Try.prog 31 [.d (encA a b), .d (encA c d)] [] (errL 1) [] := by
  have hC1 := check_is a b
  rw [h1, if_pos rfl] at hC1
  have hC2 := check_is c d
  rw [h2, if_pos rfl] at hC2
  have hl' : (!decide ((a.length : Int) = c.length)) = true := by rw [hl]; rfl
  refine fnIs_of tab_ok Try.func31 rfl rfl rfl ?_
  refine wc_seq ?_
  refine wc_region ?_
  refine reg_new (step_C tab_ok (fun K hk => hk)) rfl ?_
  refine reg_new (step_C tab_ok (fun K hk => hk)) rfl ?_
  refine reg_quiet rfl (step_C tab_ok (fun K hk => hk)) ?_
  refine reg_quiet rfl (step_C tab_ok (fun K hk => hk)) ?_
  refine reg_nil ?_
  refine seq_n ?_
  refine wc_seq ?_
  refine wc_seq ?_
  refine wc_region ?_
  refine reg_quiet rfl (load_box tab_ok rfl rfl rfl rfl) ?_
  refine reg_quiet rfl (load_box tab_ok rfl rfl rfl rfl) ?_
  refine reg_quiet rfl (build_arr_of tab_ok rfl rfl rfl rfl rfl rfl rfl) ?_
  refine reg_quiet rfl (step_C tab_ok (fun K hk => hk)) ?_
  refine reg_nil ?_
  refine seq_n ?_
  refine wc_block ?_
  refine wc_inv (fun i : Nat => ⟨[(14, .int .i64 i), (13, .d (.cons (encA a b) (.cons (encA c d) .nil))), (2, .ptr 64 []), (3, .ptr 65 [])], [(64, some (.box 30 (.d (encA a b)))), (65, some (.box 30 (.d (encA c d))))], 72, Try.f31.ntmps, 64⟩) (fun i => i ≤ 2) (fun i => 2 - i) 0 [(65, some 72)] (Nat.zero_le _)
    (.of rfl rfl rfl rfl rfl ⟨⟨_, rfl, .refl _⟩, rfl, ⟨_, rfl, .refl _⟩, rfl, ⟨_, rfl, .refl _⟩, rfl, ⟨_, rfl, .refl _⟩, rfl, trivial⟩ ⟨⟨rfl, rfl, _, rfl, .refl _⟩, ⟨rfl, rfl, _, rfl, .refl _⟩, trivial⟩) ?_
  intro i hi
  refine wc_of ?_
  have hc : i = 0 ∨ i = 1 ∨ i = 2 := by omega
  rcases hc with rfl | rfl | rfl
  · refine wc_seq ?_
    refine wc_region ?_
    refine reg_quiet rfl (step_C tab_ok (fun K hk => hk)) ?_
    refine reg_nil ?_
    refine seq_n ?_
    refine wc_seq ?_
    refine wc_true rfl rfl ?_
    refine wc_skip ?_
    refine seq_n ?_
    refine wc_seq ?_
    refine wc_block ?_
    refine wc_seq ?_
    refine wc_region ?_
    refine reg_quiet rfl (index_vec (k := .i64) (m := 0) tab_ok rfl rfl rfl rfl rfl (by decide) (by decide) rfl rfl) ?_
    refine reg_new (step_C tab_ok (fun K hk => hk)) rfl ?_
    refine reg_store (store_row tab_ok rfl rfl rfl ⟨_, ⟨rfl, rfl, rfl⟩, rfl⟩ rfl) ?_
    refine reg_nil ?_
    refine seq_n ?_
    refine wc_seq ?_
    refine wc_region ?_
    refine reg_quiet rfl (load_box tab_ok rfl rfl rfl rfl) ?_
    refine reg_quiet rfl (call_r hC1 rfl rfl (arg_e arg_nil) (.inl rfl) (fun _ => rfl)) ?_
    refine reg_quiet rfl (step_C tab_ok (fun K hk => hk)) ?_
    refine reg_nil ?_
    refine seq_n ?_
    refine wc_seq ?_
    refine wc_region ?_
    refine reg_quiet rfl (step_C tab_ok (fun K hk => hk)) ?_
    refine reg_quiet rfl (step_C tab_ok (fun K hk => hk)) ?_
    refine reg_nil ?_
    refine seq_n ?_
    refine wc_false rfl rfl ?_
    refine wc_skip ?_
    refine blk_n ?_
    refine seq_n ?_
    refine wc_region ?_
    refine reg_quiet rfl (add_int tab_ok rfl rfl (wrap_i64 (by omega) (by omega))) ?_
    refine reg_quiet rfl (step_C tab_ok (fun K hk => hk)) ?_
    refine reg_nil ?_
    refine loop_n 1 [(64, some 64), (65, some 65)] (by decide) (by decide) ?_
    exact .of rfl rfl rfl rfl rfl ⟨⟨_, rfl, .refl _⟩, rfl, ⟨_, rfl, .refl _⟩, rfl, ⟨_, rfl, .refl _⟩, rfl, ⟨_, rfl, .refl _⟩, rfl, trivial⟩ ⟨⟨rfl, rfl, _, rfl, .refl _⟩, ⟨rfl, rfl, _, rfl, .refl _⟩, trivial⟩
  · refine wc_seq ?_
    refine wc_region ?_
    refine reg_quiet rfl (step_C tab_ok (fun K hk => hk)) ?_
    refine reg_nil ?_
    refine seq_n ?_
    refine wc_seq ?_
    refine wc_true rfl rfl ?_
    refine wc_skip ?_
    refine seq_n ?_
    refine wc_seq ?_
    refine wc_block ?_
    refine wc_seq ?_
    refine wc_region ?_
    refine reg_quiet rfl (index_vec (k := .i64) (m := 1) tab_ok rfl rfl rfl rfl rfl (by decide) (by decide) rfl rfl) ?_
    refine reg_new (step_C tab_ok (fun K hk => hk)) rfl ?_
    refine reg_store (store_row tab_ok rfl rfl rfl ⟨_, ⟨rfl, rfl, rfl⟩, rfl⟩ rfl) ?_
    refine reg_nil ?_
    refine seq_n ?_
    refine wc_seq ?_
    refine wc_region ?_
    refine reg_quiet rfl (load_box tab_ok rfl rfl rfl rfl) ?_
    refine reg_quiet rfl (call_r hC2 rfl rfl (arg_e arg_nil) (.inl rfl) (fun _ => rfl)) ?_
    refine reg_quiet rfl (step_C tab_ok (fun K hk => hk)) ?_
    refine reg_nil ?_
    refine seq_n ?_
    refine wc_seq ?_
    refine wc_region ?_
    refine reg_quiet rfl (step_C tab_ok (fun K hk => hk)) ?_
    refine reg_quiet rfl (step_C tab_ok (fun K hk => hk)) ?_
    refine reg_nil ?_
    refine seq_n ?_
    refine wc_false rfl rfl ?_
    refine wc_skip ?_
    refine blk_n ?_
    refine seq_n ?_
    refine wc_region ?_
    refine reg_quiet rfl (add_int tab_ok rfl rfl (wrap_i64 (by omega) (by omega))) ?_
    refine reg_quiet rfl (step_C tab_ok (fun K hk => hk)) ?_
    refine reg_nil ?_
    refine loop_n 2 [(64, some 64), (65, some 65)] (by decide) (by decide) ?_
    exact .of rfl rfl rfl rfl rfl ⟨⟨_, rfl, .refl _⟩, rfl, ⟨_, rfl, .refl _⟩, rfl, ⟨_, rfl, .refl _⟩, rfl, ⟨_, rfl, .refl _⟩, rfl, trivial⟩ ⟨⟨rfl, rfl, _, rfl, .refl _⟩, ⟨rfl, rfl, _, rfl, .refl _⟩, trivial⟩
  · refine wc_seq ?_
    refine wc_region ?_
    refine reg_quiet rfl (step_C tab_ok (fun K hk => hk)) ?_
    refine reg_nil ?_
    refine seq_n ?_
    refine wc_seq ?_
    refine wc_false rfl rfl ?_
    refine wc_exit ?_
    refine seq_x ?_
    refine loop_x ?_
    refine blk_x ?_
    refine seq_n ?_
    refine wc_seq ?_
    refine wc_seq ?_
    refine wc_region ?_
    refine reg_quiet rfl (step_C tab_ok (fun K hk => hk)) ?_
    refine reg_quiet rfl (load_box tab_ok rfl rfl ⟨_, rfl, rfl⟩ rfl) ?_
    refine reg_quiet rfl (len_arr tab_ok rfl rfl) ?_
    refine reg_quiet rfl (step_C tab_ok (fun K hk => hk)) ?_
    refine reg_quiet rfl (load_box tab_ok rfl rfl ⟨_, rfl, rfl⟩ rfl) ?_
    refine reg_quiet rfl (len_arr tab_ok rfl rfl) ?_
    refine reg_quiet rfl (step_C tab_ok (fun K hk => hk)) ?_
    refine reg_nil ?_
    refine seq_n ?_
    refine wc_true rfl (by assumption) ?_
    refine wc_seq ?_
    refine wc_region ?_
    refine reg_quiet rfl (step_C tab_ok (fun K hk => hk)) ?_
    refine reg_quiet rfl (step_C tab_ok (fun K hk => hk)) ?_
    refine reg_nil ?_
    refine seq_n ?_
    refine wc_ret ?_
    refine seq_r ?_
    exact ⟨trivial, [], .of rfl rfl rfl rfl rfl ⟨⟨_, rfl, AVLe.of_eq rfl⟩, rfl, trivial⟩ trivial⟩
theorem differ_ok (a b c d : Blks) (h1 : okA a b = true) (h2 : okA c d = true) (hl : a.length = c.length) : FnIs Try.prog 31 [.d (encA a b), .d (encA c d)] [] (.tup (.acons (.own 64 0 (diffK a c a.length).length 1 (some (diffK a c a.length).length)) (.acons (.int .i64 0) .anil))) [(64, .ds 3 1 false i6 (diffK a c a.length))] := by
  have hC1 := check_is a b
  rw [h1, if_pos rfl] at hC1
  have hC2 := check_is c d
  rw [h2, if_pos rfl] at hC2
  have hl' : (!decide ((a.length : Int) = c.length)) = false := by rw [decide_eq_true (by omega)]; rfl
  obtain ⟨hla, hla2, hab⟩ := okA_len h1
  refine fnIs_of tab_ok Try.func31 rfl rfl rfl ?_
  refine wc_seq ?_
  refine wc_region ?_
  refine reg_new (step_C tab_ok (fun K hk => hk)) rfl ?_
  refine reg_new (step_C tab_ok (fun K hk => hk)) rfl ?_
  refine reg_quiet rfl (step_C tab_ok (fun K hk => hk)) ?_
  refine reg_quiet rfl (step_C tab_ok (fun K hk => hk)) ?_
  refine reg_nil ?_
  refine seq_n ?_
  refine wc_seq ?_
  refine wc_seq ?_
  refine wc_region ?_
  refine reg_quiet rfl (load_box tab_ok rfl rfl rfl rfl) ?_
  refine reg_quiet rfl (load_box tab_ok rfl rfl rfl rfl) ?_
  refine reg_quiet rfl (build_arr_of tab_ok rfl rfl rfl rfl rfl rfl rfl) ?_
  refine reg_quiet rfl (step_C tab_ok (fun K hk => hk)) ?_
  refine reg_nil ?_
  refine seq_n ?_
  refine wc_block ?_
  refine wc_inv (fun i : Nat => ⟨[(14, .int .i64 i), (13, .d (.cons (encA a b) (.cons (encA c d) .nil))), (2, .ptr 64 []), (3, .ptr 65 [])], [(64, some (.box 30 (.d (encA a b)))), (65, some (.box 30 (.d (encA c d))))], 72, Try.f31.ntmps, 64⟩) (fun i => i ≤ 2) (fun i => 2 - i) 0 [(65, some 72)] (Nat.zero_le _)
    (.of rfl rfl rfl rfl rfl ⟨⟨_, rfl, .refl _⟩, rfl, ⟨_, rfl, .refl _⟩, rfl, ⟨_, rfl, .refl _⟩, rfl, ⟨_, rfl, .refl _⟩, rfl, trivial⟩ ⟨⟨rfl, rfl, _, rfl, .refl _⟩, ⟨rfl, rfl, _, rfl, .refl _⟩, trivial⟩) ?_
  intro i hi
  refine wc_of ?_
  have hc : i = 0 ∨ i = 1 ∨ i = 2 := by omega
  rcases hc with rfl | rfl | rfl
  · refine wc_seq ?_
    refine wc_region ?_
    refine reg_quiet rfl (step_C tab_ok (fun K hk => hk)) ?_
    refine reg_nil ?_
    refine seq_n ?_
    refine wc_seq ?_
    refine wc_true rfl rfl ?_
    refine wc_skip ?_
    refine seq_n ?_
    refine wc_seq ?_
    refine wc_block ?_
    refine wc_seq ?_
    refine wc_region ?_
    refine reg_quiet rfl (index_vec (k := .i64) (m := 0) tab_ok rfl rfl rfl rfl rfl (by decide) (by decide) rfl rfl) ?_
    refine reg_new (step_C tab_ok (fun K hk => hk)) rfl ?_
    refine reg_store (store_row tab_ok rfl rfl rfl ⟨_, ⟨rfl, rfl, rfl⟩, rfl⟩ rfl) ?_
    refine reg_nil ?_
    refine seq_n ?_
    refine wc_seq ?_
    refine wc_region ?_
    refine reg_quiet rfl (load_box tab_ok rfl rfl rfl rfl) ?_
    refine reg_quiet rfl (call_r hC1 rfl rfl (arg_e arg_nil) (.inl rfl) (fun _ => rfl)) ?_
    refine reg_quiet rfl (step_C tab_ok (fun K hk => hk)) ?_
    refine reg_nil ?_
    refine seq_n ?_
    refine wc_seq ?_
    refine wc_region ?_
    refine reg_quiet rfl (step_C tab_ok (fun K hk => hk)) ?_
    refine reg_quiet rfl (step_C tab_ok (fun K hk => hk)) ?_
    refine reg_nil ?_
    refine seq_n ?_
    refine wc_false rfl rfl ?_
    refine wc_skip ?_
    refine blk_n ?_
    refine seq_n ?_
    refine wc_region ?_
    refine reg_quiet rfl (add_int tab_ok rfl rfl (wrap_i64 (by omega) (by omega))) ?_
    refine reg_quiet rfl (step_C tab_ok (fun K hk => hk)) ?_
    refine reg_nil ?_
    refine loop_n 1 [(64, some 64), (65, some 65)] (by decide) (by decide) ?_
    exact .of rfl rfl rfl rfl rfl ⟨⟨_, rfl, .refl _⟩, rfl, ⟨_, rfl, .refl _⟩, rfl, ⟨_, rfl, .refl _⟩, rfl, ⟨_, rfl, .refl _⟩, rfl, trivial⟩ ⟨⟨rfl, rfl, _, rfl, .refl _⟩, ⟨rfl, rfl, _, rfl, .refl _⟩, trivial⟩
  · refine wc_seq ?_
    refine wc_region ?_
    refine reg_quiet rfl (step_C tab_ok (fun K hk => hk)) ?_
    refine reg_nil ?_
    refine seq_n ?_
    refine wc_seq ?_
    refine wc_true rfl rfl ?_
    refine wc_skip ?_
    refine seq_n ?_
    refine wc_seq ?_
    refine wc_block ?_
    refine wc_seq ?_
    refine wc_region ?_
    refine reg_quiet rfl (index_vec (k := .i64) (m := 1) tab_ok rfl rfl rfl rfl rfl (by decide) (by decide) rfl rfl) ?_
    refine reg_new (step_C tab_ok (fun K hk => hk)) rfl ?_
    refine reg_store (store_row tab_ok rfl rfl rfl ⟨_, ⟨rfl, rfl, rfl⟩, rfl⟩ rfl) ?_
    refine reg_nil ?_
    refine seq_n ?_
    refine wc_seq ?_
    refine wc_region ?_
    refine reg_quiet rfl (load_box tab_ok rfl rfl rfl rfl) ?_
    refine reg_quiet rfl (call_r hC2 rfl rfl (arg_e arg_nil) (.inl rfl) (fun _ => rfl)) ?_
    refine reg_quiet rfl (step_C tab_ok (fun K hk => hk)) ?_
    refine reg_nil ?_
    refine seq_n ?_
    refine wc_seq ?_
    refine wc_region ?_
    refine reg_quiet rfl (step_C tab_ok (fun K hk => hk)) ?_
    refine reg_quiet rfl (step_C tab_ok (fun K hk => hk)) ?_
    refine reg_nil ?_
    refine seq_n ?_
    refine wc_false rfl rfl ?_
    refine wc_skip ?_
    refine blk_n ?_
    refine seq_n ?_
    refine wc_region ?_
    refine reg_quiet rfl (add_int tab_ok rfl rfl (wrap_i64 (by omega) (by omega))) ?_
    refine reg_quiet rfl (step_C tab_ok (fun K hk => hk)) ?_
    refine reg_nil ?_
    refine loop_n 2 [(64, some 64), (65, some 65)] (by decide) (by decide) ?_
    exact .of rfl rfl rfl rfl rfl ⟨⟨_, rfl, .refl _⟩, rfl, ⟨_, rfl, .refl _⟩, rfl, ⟨_, rfl, .refl _⟩, rfl, ⟨_, rfl, .refl _⟩, rfl, trivial⟩ ⟨⟨rfl, rfl, _, rfl, .refl _⟩, ⟨rfl, rfl, _, rfl, .refl _⟩, trivial⟩
  · refine wc_seq ?_
    refine wc_region ?_
    refine reg_quiet rfl (step_C tab_ok (fun K hk => hk)) ?_
    refine reg_nil ?_
    refine seq_n ?_
    refine wc_seq ?_
    refine wc_false rfl rfl ?_
    refine wc_exit ?_
    refine seq_x ?_
    refine loop_x ?_
    refine blk_x ?_
    refine seq_n ?_
    refine wc_seq ?_
    refine wc_seq ?_
    refine wc_region ?_
    refine reg_quiet rfl (step_C tab_ok (fun K hk => hk)) ?_
    refine reg_quiet rfl (load_box tab_ok rfl rfl ⟨_, rfl, rfl⟩ rfl) ?_
    refine reg_quiet rfl (len_arr tab_ok rfl rfl) ?_
    refine reg_quiet rfl (step_C tab_ok (fun K hk => hk)) ?_
    refine reg_quiet rfl (load_box tab_ok rfl rfl ⟨_, rfl, rfl⟩ rfl) ?_
    refine reg_quiet rfl (len_arr tab_ok rfl rfl) ?_
    refine reg_quiet rfl (step_C tab_ok (fun K hk => hk)) ?_
    refine reg_nil ?_
    refine seq_n ?_
    refine wc_false rfl (by assumption) ?_
    refine wc_skip ?_
    refine seq_n ?_
    refine wc_seq ?_
    refine wc_region ?_
    refine reg_quiet rfl (step_C tab_ok (fun K hk => hk)) ?_
    refine reg_nil ?_
    refine seq_n ?_
    refine wc_seq ?_
    refine wc_seq ?_
    refine wc_region ?_
    refine reg_quiet rfl (step_C tab_ok (fun K hk => hk)) ?_
    refine reg_quiet rfl (load_box tab_ok rfl rfl ⟨_, rfl, rfl⟩ rfl) ?_
    refine reg_quiet rfl (len_arr tab_ok rfl rfl) ?_
    refine reg_quiet rfl (step_C tab_ok (fun K hk => hk)) ?_
    refine reg_nil ?_
    refine seq_n ?_
    refine wc_block ?_
    refine wc_inv (fun i : Nat => ⟨[(33, .int .i64 i), (32, .int .i64 a.length), (9, .own 66 0 (diffK a c i).length 1 none), (2, .ptr 64 []), (3, .ptr 65 [])], [(64, some (.box 30 (.d (encA a b)))), (65, some (.box 30 (.d (encA c d)))), (66, some (.ds 3 1 false i6 (diffK a c i)))], 72, Try.f31.ntmps, 64⟩) (fun i => i ≤ a.length) (fun i => a.length - i) 0 [(66, none)] (Nat.zero_le _)
      (.of rfl rfl rfl rfl rfl ⟨⟨_, rfl, .refl _⟩, rfl, ⟨_, rfl, .refl _⟩, rfl, ⟨_, rfl, .refl _⟩, rfl, ⟨_, rfl, .refl _⟩, rfl, ⟨_, rfl, .refl _⟩, rfl, trivial⟩ ⟨⟨rfl, rfl, _, rfl, .refl _⟩, ⟨rfl, rfl, _, rfl, .refl _⟩, ⟨rfl, rfl, rfl⟩, trivial⟩) ?_
    clear hi
    intro i hi
    have hdl := diff_len a c i
    have hlen : (diffK a c i).length + 1 ≤ 1048576 := by omega
    refine wc_of ?_
    refine wc_seq ?_
    refine wc_region ?_
    refine reg_quiet rfl (step_C tab_ok (fun K hk => hk)) ?_
    refine reg_nil ?_
    refine seq_n ?_
    refine wc_seq ?_
    refine wc_cond rfl (fun h3 => ?_) (fun h3 => ?_)
    · have hlt : i < a.length := by have := of_decide_eq_true h3; omega
      obtain ⟨f, hf⟩ : ∃ f, a[i]? = some f := ⟨_, List.getElem?_eq_getElem hlt⟩
      obtain ⟨g, hg⟩ : ∃ g, c[i]? = some g := ⟨_, List.getElem?_eq_getElem (hl ▸ hlt)⟩
      have hf' : a[((i : Int)).toNat]? = some f := by rw [Int.toNat_natCast]; exact hf
      have hg' : c[((i : Int)).toNat]? = some g := by rw [Int.toNat_natCast]; exact hg
      refine wc_skip ?_
      refine seq_n ?_
      refine wc_seq ?_
      refine wc_block ?_
      refine wc_seq ?_
      refine wc_region ?_
      refine reg_quiet rfl (step_C tab_ok (fun K hk => hk)) ?_
      refine reg_quiet rfl (step_C tab_ok (fun K hk => hk)) ?_
      refine reg_nil ?_
      refine seq_n ?_
      refine wc_seq ?_
      refine wc_draw (by kernel_rfl) ?_
      refine dreg_q [2] [64] rfl (step_C tab_ok (fun K hk => hk)) ?_
      refine dreg_q [36] [64] rfl (load_box tab_ok rfl rfl ⟨_, rfl, rfl⟩ rfl) ?_
      refine dreg_q [10] [] rfl (step_C tab_ok (fun K hk => hk)) ?_
      refine dreg_q [37, 38] [] rfl (index_arr tab_ok rfl rfl rfl rfl rfl (by omega) (by assumption)) ?_
      refine dreg_q [39] [] rfl (load_i tab_ok rfl rfl) ?_
      refine dreg_q [3] [65] rfl (step_C tab_ok (fun K hk => hk)) ?_
      refine dreg_q [41] [65] rfl (load_box tab_ok rfl rfl ⟨_, rfl, rfl⟩ rfl) ?_
      refine dreg_q [10] [] rfl (step_C tab_ok (fun K hk => hk)) ?_
      refine dreg_q [42, 43] [] rfl (index_arr tab_ok rfl rfl rfl rfl rfl (by omega) (by assumption)) ?_
      refine dreg_q [44] [] rfl (load_i tab_ok rfl rfl) ?_
      refine dreg_q [40, 45] [] rfl (neq_data rfl rfl rfl rfl (by kernel_rfl) (by decide) (block_eq f g)) ?_
      refine dreg_end (by kernel_rfl) ?_
      refine seq_n ?_
      refine wc_cond rfl (fun hu => ?_) (fun hu => ?_)
      · have hs := diff_yes (a := a) (c := c) (k := i) (by rw [hf, hg]; intro e; cases e; simp at hu)
        refine wc_region ?_
        refine reg_quiet rfl (step_C tab_ok (fun K hk => hk)) ?_
        refine reg_quiet rfl (step_C tab_ok (fun K hk => hk)) ?_
        refine reg_new (build_slice tab_ok rfl rfl rfl rfl rfl rfl rfl rfl) rfl ?_
        refine reg_new2 (append_one (s := 1) (enc := i6) tab_ok (i : Int) rfl rfl rfl rfl rfl rfl rfl rfl rfl hlen rfl) rfl ?_
        refine reg_quiet rfl (step_C tab_ok (fun K hk => hk)) ?_
        refine reg_nil ?_
        refine blk_n ?_
        refine seq_n ?_
        refine wc_region ?_
        refine reg_quiet rfl (add_int tab_ok rfl rfl (wrap_i64 (by omega) (by omega))) ?_
        refine reg_quiet rfl (step_C tab_ok (fun K hk => hk)) ?_
        refine reg_nil ?_
        refine loop_n (i + 1) [(66, some 208)] hlt (show a.length - (i + 1) < a.length - i by omega) ?_
        exact .of rfl rfl rfl rfl rfl ⟨⟨_, rfl, .refl _⟩, rfl, ⟨_, rfl, .refl _⟩, rfl, ⟨_, rfl, .of_eq (by rw [hs, List.length_append]; rfl)⟩, rfl, ⟨_, rfl, .refl _⟩, rfl, ⟨_, rfl, .refl _⟩, rfl, trivial⟩ ⟨⟨rfl, rfl, _, rfl, .refl _⟩, ⟨rfl, rfl, _, rfl, .refl _⟩, ⟨rfl, rfl, _, rfl, .of_eq (by rw [hs]; rfl)⟩, trivial⟩
      · have hs := diff_no (a := a) (c := c) (k := i) (by rw [hf, hg]; simp at hu; rw [hu])
        refine wc_skip ?_
        refine blk_n ?_
        refine seq_n ?_
        refine wc_region ?_
        refine reg_quiet rfl (add_int tab_ok rfl rfl (wrap_i64 (by omega) (by omega))) ?_
        refine reg_quiet rfl (step_C tab_ok (fun K hk => hk)) ?_
        refine reg_nil ?_
        refine loop_n (i + 1) [(66, some 66)] hlt (show a.length - (i + 1) < a.length - i by omega) ?_
        exact .of rfl rfl rfl rfl rfl ⟨⟨_, rfl, .refl _⟩, rfl, ⟨_, rfl, .refl _⟩, rfl, ⟨_, rfl, .of_eq (by rw [hs]; rfl)⟩, rfl, ⟨_, rfl, .refl _⟩, rfl, ⟨_, rfl, .refl _⟩, rfl, trivial⟩ ⟨⟨rfl, rfl, _, rfl, .refl _⟩, ⟨rfl, rfl, _, rfl, .refl _⟩, ⟨rfl, rfl, _, rfl, .of_eq (by rw [hs]; rfl)⟩, trivial⟩
    · obtain rfl : i = a.length := by have := of_decide_eq_false h3; omega
      refine wc_exit ?_
      refine seq_x ?_
      refine loop_x ?_
      refine blk_x ?_
      refine seq_n ?_
      refine wc_seq ?_
      refine wc_region ?_
      refine reg_quiet rfl (step_C tab_ok (fun K hk => hk)) ?_
      refine reg_new2 (call_h [(0, some 66)] (clipI_is (diffK a c a.length) (diffK a c a.length).length false) rfl rfl rfl (arg_give rfl rfl arg_nil) ⟨⟨rfl, rfl, _, _, rfl, rfl, .refl _⟩, trivial⟩ rfl rfl (.inl rfl) rfl rfl) rfl ?_
      refine reg_quiet rfl (step_C tab_ok (fun K hk => hk)) ?_
      refine reg_quiet rfl (step_C tab_ok (fun K hk => hk)) ?_
      refine reg_nil ?_
      refine seq_n ?_
      refine wc_ret ?_
      exact ⟨trivial, [(64, some 66)], .of rfl rfl rfl rfl rfl ⟨⟨_, rfl, AVLe.of_eq rfl⟩, rfl, trivial⟩ ⟨⟨rfl, rfl, _, rfl, .refl _⟩, trivial⟩⟩
end Go.Proofs.Ytjpjchohpjbknaa

/- Arrays: the examples of the chapter. -/
namespace Go.Proofs.Ytjpjchohpjbknaa
open Go.Eng
set_option maxHeartbeats 4000000
set_option maxRecDepth 4000
attribute [local irreducible] WC RegS RegD SeqQ BlkQ ScoQ RegK CutK Sat SatN FnIs LoopQ StepIs OpIs
abbrev okT (n : Nat) (c : Option Nat) (m : Nat) (c2 : Option Nat) : AV := .tup (.acons (ownA 64 n c 65 m c2) (.acons (.int .i64 0) .anil))
theorem okT_plain (n m : Nat) (c c2 : Option Nat) (a b : Blks) (e1 e2 : Bool) : PlainRes (okT n c m c2) [(64, rowB e1 a), (65, rowB e2 b)] := .of ⟨⟨trivial, trivial, trivial⟩, trivial, trivial⟩ (rows_plain _ _ _ _)
theorem read_plain (x : List Int) (e : Int) : PlainRes (tup2 (encBlock x) (i6 e)) [] := .of ⟨block_plain x, trivial, trivial⟩ plain_rows_nil
theorem doT_plain (n m : Nat) (c c2 : Option Nat) (r : Res) (e : Int) (a b : Blks) (e1 e2 : Bool) : PlainRes (tup3 (ownA 64 n c 65 m c2) (.d (encRes r)) (.int .i64 e)) [(64, rowB e1 a), (65, rowB e2 b)] :=
  .of ⟨⟨trivial, trivial, trivial⟩, ⟨block_plain _, trivial, trivial⟩, trivial, trivial⟩ (rows_plain _ _ _ _)
theorem diff_plain (n : Nat) (c : Option Nat) (e : Int) (l : List Int) (ex : Bool) : PlainRes (.tup (.acons (.own 64 0 n 1 c) (.acons (.int .i64 e) .anil))) [(64, .ds 3 1 ex i6 l)] := .of ⟨trivial, trivial, trivial⟩ (plain_rows_cons (fun _ => trivial) plain_rows_nil)
theorem errL_plain (e : Int) : PlainRes (errL e) [] := .of ⟨trivial, trivial, trivial⟩ plain_rows_nil
theorem errA_plain (e : Int) : PlainRes (errA e) [] := .of ⟨⟨trivial, trivial, trivial⟩, trivial, trivial⟩ plain_rows_nil
/-- An operation without data. -/
theorem arg_op {look : Nat → Option Row} {ρ : Nat → Option Nat} {k i : Int} {bs avs : List AV} (ht : ArgsA look ρ bs avs) : ArgsA look ρ (.d (.cons (u8s k) (.cons (i6 i) (.cons (.sc nil_) .nil))) :: bs) (.d (encOp ⟨k, i, []⟩) :: avs) :=
  arg_d rfl trivial (DLe.cons (DLe.refl _) (DLe.cons (DLe.refl _) (DLe.cons (DLe.nil_arr 1 encU8) (DLe.refl _)))) ht
/-- An operation with a slice of an array. -/
theorem arg_opA {look : Nat → Option Row} {ρ : Nat → Option Nat} {k i : Int} {r len t : Nat} {x : List Int} {bs avs : List AV} (hr : look r = some (.box t (.d (encBlock x)))) (hl : len ≤ 32) (ht : ArgsA look ρ bs avs) :
    ArgsA look ρ (.acons (.d (u8s k)) (.acons (.d (i6 i)) (.acons (.asl r [] len 32) (.d .nil))) :: bs) (.d (encOp ⟨k, i, x.take len⟩) :: avs) :=
  ⟨_, avs, rfl, ⟨rfl, rfl⟩, ⟨rfl, _, _, rfl, DLe.refl _, _, _, rfl, DLe.refl _, _, _, rfl, by simp only [ArgD, hr]; exact ⟨trivial, hl, hl, by decide, _, rfl, DLe.refl _⟩, DLe.refl _⟩, ht⟩
theorem lives_core (X Y : List Int) (A1 A2 B1 B2 C1 C2 D1 D2 E1 E2 F1 F2 : Blks) (hX : FnIs Try.prog 35 [.d (u8s 3)] [] (.d (encBlock X)) []) (hY : FnIs Try.prog 35 [.d (u8s 4)] [] (.d (encBlock Y)) []) (hA : FnIs Try.prog 15 [.d (i6 2)] [] (okT 2 none 2 none) [(64, rowB true A1), (65, rowB true A2)]) (hB : FnIs Try.prog 33 [.d (encA A1 A2), .d (i6 1), .d (encBlock X)] [] (okT 2 (some 2) 2 (some 2)) [(64, rowB false B1), (65, rowB false B2)]) (hR1 : FnIs Try.prog 32 [.d (encA B1 B2), .d (i6 1)] [] (tup2 (encBlock X) (i6 0)) []) (hC : FnIs Try.prog 29 [.d (encA B1 B2)] [] (okT 2 (some 2) 2 (some 2)) [(64, rowB false C1), (65, rowB false C2)]) (hR2 : FnIs Try.prog 32 [.d (encA C1 C2), .d (i6 1)] [] (tup2 (encBlock zeroBlock) (i6 0)) []) (hD : FnIs Try.prog 28 [.d (encA B1 B2)] [] (okT 2 (some 2) 2 (some 2)) [(64, rowB false D1), (65, rowB false D2)]) (hE : FnIs Try.prog 33 [.d (encA D1 D2), .d (i6 1), .d (encBlock Y)] [] (okT 2 (some 2) 2 (some 2)) [(64, rowB false E1), (65, rowB false E2)]) (hF : FnIs Try.prog 29 [.d (encA E1 E2)] [] (okT 2 (some 2) 2 (some 2)) [(64, rowB false F1), (65, rowB false F2)]) (hR3 : FnIs Try.prog 32 [.d (encA F1 F2), .d (i6 1)] [] (tup2 (encBlock X) (i6 0)) []) (hG : FnIs Try.prog 31 [.d (encA A1 A2), .d (encA B1 B2)] [] (.tup (.acons (.own 64 0 1 1 (some 1)) (.acons (.int .i64 0) .anil))) [(64, .ds 3 1 false i6 [1])]) (hQ1 : FnIs Try.prog 20 [.d (encA A1 A2), .d (encOp ⟨1, 2, []⟩)] [] (tup3 (ownA 64 2 (some 2) 65 2 (some 2)) (.d (encRes ⟨zeroBlock, 1⟩)) (.int .i64 0)) [(64, rowB false A1), (65, rowB false A2)]) (hQ2 : FnIs Try.prog 20 [.d (encA A1 A2), .d (encOp ⟨2, 0, X.take 31⟩)] [] (tup3 (ownA 64 2 (some 2) 65 2 (some 2)) (.d (encRes ⟨zeroBlock, 1⟩)) (.int .i64 0)) [(64, rowB false A1), (65, rowB false A2)]) (hQ3 : FnIs Try.prog 20 [.d (encA A1 A2), .d (encOp ⟨3, 9, []⟩)] [] (tup3 (ownA 64 2 (some 2) 65 2 (some 2)) (.d (encRes ⟨zeroBlock, 0⟩)) (.int .i64 0)) [(64, rowB false A1), (65, rowB false A1)]) (hR4 : FnIs Try.prog 32 [.d (encA A1 A2), .d (i6 (-1))] [] (tup2 (encBlock zeroBlock) (i6 1)) []) (hN : FnIs Try.prog 15 [.d (i6 0)] [] (errA 1) []) (hA1 : 2 = A1.length) (hA2 : 2 = A2.length) (hB1 : 2 = B1.length) (hB2 : 2 = B2.length) (hC1 : 2 = C1.length) (hC2 : 2 = C2.length) (hD1 : 2 = D1.length) (hD2 : 2 = D2.length) (hE1 : 2 = E1.length) (hE2 : 2 = E2.length) (hF1 : 2 = F1.length) (hF2 : 2 = F2.length) (hn1 : (!decide (X = X)) = false) (hn2 : (!decide (zeroBlock = zeroBlock)) = false) : FnIs Try.prog 23 [] [] (.bool true) [] := by
  refine fnIs_of tab_ok Try.func23 rfl rfl rfl ?_
  refine wc_seq ?_
  refine wc_region ?_
  refine reg_quiet rfl (step_C tab_ok (fun K hk => hk)) ?_
  refine reg_nil ?_
  refine seq_n ?_
  refine wc_seq ?_
  refine wc_region ?_
  refine reg_quiet rfl (call_r hX rfl rfl (arg_e arg_nil) (.inl rfl) (fun _ => rfl)) ?_
  refine reg_quiet rfl (call_r hY rfl rfl (arg_e arg_nil) (.inl rfl) (fun _ => rfl)) ?_
  refine reg_new (step_C tab_ok (fun K hk => hk)) rfl ?_
  refine reg_new (step_C tab_ok (fun K hk => hk)) rfl ?_
  refine reg_store (store_row tab_ok rfl rfl rfl ⟨_, ⟨rfl, rfl, rfl⟩, rfl⟩ rfl) ?_
  refine reg_store (store_row tab_ok rfl rfl rfl ⟨_, ⟨rfl, rfl, rfl⟩, rfl⟩ rfl) ?_
  refine reg_nil ?_
  refine seq_n ?_
  refine wc_seq ?_
  refine wc_region ?_
  refine reg_new2 (call_new hA rfl rfl (arg_e arg_nil) (.inl rfl) rfl rfl) rfl ?_
  refine reg_quiet rfl (step_C tab_ok (fun K hk => hk)) ?_
  refine reg_quiet rfl (step_C tab_ok (fun K hk => hk)) ?_
  refine reg_quiet rfl (step_C tab_ok (fun K hk => hk)) ?_
  refine reg_new (step_C tab_ok (fun K hk => hk)) rfl ?_
  refine reg_store (store_row tab_ok rfl rfl rfl ⟨_, ⟨rfl, rfl, rfl⟩, rfl⟩ rfl) ?_
  refine reg_quiet rfl (step_C tab_ok (fun K hk => hk)) ?_
  refine reg_nil ?_
  refine seq_n ?_
  refine wc_seq ?_
  refine wc_region ?_
  refine reg_quiet rfl (load_box tab_ok rfl rfl rfl rfl) ?_
  refine reg_quiet rfl (load_box tab_ok rfl rfl rfl rfl) ?_
  refine reg_new2 (call_new hB rfl rfl (arg_A rfl rfl hA1 hA2 (arg_e (arg_e arg_nil))) (.inr (okT_plain _ _ _ _ _ _ _ _)) rfl rfl) rfl ?_
  refine reg_quiet rfl (step_C tab_ok (fun K hk => hk)) ?_
  refine reg_quiet rfl (step_C tab_ok (fun K hk => hk)) ?_
  refine reg_quiet rfl (step_C tab_ok (fun K hk => hk)) ?_
  refine reg_new (step_C tab_ok (fun K hk => hk)) rfl ?_
  refine reg_store (store_row tab_ok rfl rfl rfl ⟨_, ⟨rfl, rfl, rfl⟩, rfl⟩ rfl) ?_
  refine reg_quiet rfl (step_C tab_ok (fun K hk => hk)) ?_
  refine reg_nil ?_
  refine seq_n ?_
  refine wc_seq ?_
  refine wc_region ?_
  refine reg_quiet rfl (load_box tab_ok rfl rfl rfl rfl) ?_
  refine reg_quiet rfl (call_r hR1 rfl rfl (arg_A rfl rfl hB1 hB2 (arg_e arg_nil)) (.inr (read_plain _ _)) (fun _ => rfl)) ?_
  refine reg_quiet rfl (step_C tab_ok (fun K hk => hk)) ?_
  refine reg_quiet rfl (step_C tab_ok (fun K hk => hk)) ?_
  refine reg_quiet rfl (step_C tab_ok (fun K hk => hk)) ?_
  refine reg_new (step_C tab_ok (fun K hk => hk)) rfl ?_
  refine reg_store (store_row tab_ok rfl rfl rfl ⟨_, ⟨rfl, rfl, rfl⟩, rfl⟩ rfl) ?_
  refine reg_quiet rfl (step_C tab_ok (fun K hk => hk)) ?_
  refine reg_nil ?_
  refine seq_n ?_
  refine wc_seq ?_
  refine wc_region ?_
  refine reg_quiet rfl (load_box tab_ok rfl rfl rfl rfl) ?_
  refine reg_new2 (call_new hC rfl rfl (arg_A rfl rfl hB1 hB2 arg_nil) (.inr (okT_plain _ _ _ _ _ _ _ _)) rfl rfl) rfl ?_
  refine reg_quiet rfl (step_C tab_ok (fun K hk => hk)) ?_
  refine reg_quiet rfl (step_C tab_ok (fun K hk => hk)) ?_
  refine reg_quiet rfl (step_C tab_ok (fun K hk => hk)) ?_
  refine reg_new (step_C tab_ok (fun K hk => hk)) rfl ?_
  refine reg_store (store_row tab_ok rfl rfl rfl ⟨_, ⟨rfl, rfl, rfl⟩, rfl⟩ rfl) ?_
  refine reg_quiet rfl (step_C tab_ok (fun K hk => hk)) ?_
  refine reg_nil ?_
  refine seq_n ?_
  refine wc_seq ?_
  refine wc_region ?_
  refine reg_quiet rfl (load_box tab_ok rfl rfl rfl rfl) ?_
  refine reg_quiet rfl (call_r hR2 rfl rfl (arg_A rfl rfl hC1 hC2 (arg_e arg_nil)) (.inr (read_plain _ _)) (fun _ => rfl)) ?_
  refine reg_quiet rfl (step_C tab_ok (fun K hk => hk)) ?_
  refine reg_quiet rfl (step_C tab_ok (fun K hk => hk)) ?_
  refine reg_quiet rfl (step_C tab_ok (fun K hk => hk)) ?_
  refine reg_new (step_C tab_ok (fun K hk => hk)) rfl ?_
  refine reg_store (store_row tab_ok rfl rfl rfl ⟨_, ⟨rfl, rfl, rfl⟩, rfl⟩ rfl) ?_
  refine reg_quiet rfl (step_C tab_ok (fun K hk => hk)) ?_
  refine reg_nil ?_
  refine seq_n ?_
  refine wc_seq ?_
  refine wc_seq ?_
  refine wc_region ?_
  refine reg_quiet rfl (step_C tab_ok (fun K hk => hk)) ?_
  refine reg_quiet rfl (step_C tab_ok (fun K hk => hk)) ?_
  refine reg_quiet rfl (add_int tab_ok rfl rfl (wrap_i64 (by omega) (by omega))) ?_
  refine reg_quiet rfl (step_C tab_ok (fun K hk => hk)) ?_
  refine reg_quiet rfl (add_int tab_ok rfl rfl (wrap_i64 (by omega) (by omega))) ?_
  refine reg_quiet rfl (step_C tab_ok (fun K hk => hk)) ?_
  refine reg_quiet rfl (add_int tab_ok rfl rfl (wrap_i64 (by omega) (by omega))) ?_
  refine reg_quiet rfl (step_C tab_ok (fun K hk => hk)) ?_
  refine reg_quiet rfl (add_int tab_ok rfl rfl (wrap_i64 (by omega) (by omega))) ?_
  refine reg_quiet rfl (step_C tab_ok (fun K hk => hk)) ?_
  refine reg_quiet rfl (step_C tab_ok (fun K hk => hk)) ?_
  refine reg_on rfl rfl rfl ?_
  refine reg_quiet rfl (load_box tab_ok rfl rfl rfl rfl) ?_
  refine reg_on rfl rfl rfl ?_
  refine reg_quiet rfl (load_box tab_ok rfl rfl rfl rfl) ?_
  refine reg_on rfl rfl rfl ?_
  refine reg_quiet rfl (neq_data rfl rfl rfl rfl (by kernel_rfl) (by decide) (block_eq X X)) ?_
  refine reg_quiet rfl (pick_F tab_ok rfl rfl rfl) ?_
  refine reg_quiet rfl (step_C tab_ok (fun K hk => hk)) ?_
  refine reg_on rfl rfl (by assumption) ?_
  refine reg_quiet rfl (load_box tab_ok rfl rfl rfl rfl) ?_
  refine reg_on rfl rfl (by assumption) ?_
  refine reg_quiet rfl (build_array tab_ok rfl rfl rfl) ?_
  refine reg_on rfl rfl (by assumption) ?_
  refine reg_quiet rfl (neq_data rfl rfl rfl rfl (by kernel_rfl) (by decide) (block_eq zeroBlock zeroBlock)) ?_
  refine reg_quiet rfl (pick_F tab_ok rfl (by assumption) rfl) ?_
  refine reg_nil ?_
  refine seq_n ?_
  refine wc_false rfl rfl ?_
  refine wc_skip ?_
  refine seq_n ?_
  refine wc_seq ?_
  refine wc_region ?_
  refine reg_quiet rfl (load_box tab_ok rfl rfl rfl rfl) ?_
  refine reg_new2 (call_new hD rfl rfl (arg_A rfl rfl hB1 hB2 arg_nil) (.inr (okT_plain _ _ _ _ _ _ _ _)) rfl rfl) rfl ?_
  refine reg_quiet rfl (step_C tab_ok (fun K hk => hk)) ?_
  refine reg_quiet rfl (step_C tab_ok (fun K hk => hk)) ?_
  refine reg_quiet rfl (step_C tab_ok (fun K hk => hk)) ?_
  refine reg_new (step_C tab_ok (fun K hk => hk)) rfl ?_
  refine reg_store (store_row tab_ok rfl rfl rfl ⟨_, ⟨rfl, rfl, rfl⟩, rfl⟩ rfl) ?_
  refine reg_quiet rfl (step_C tab_ok (fun K hk => hk)) ?_
  refine reg_nil ?_
  refine seq_n ?_
  refine wc_seq ?_
  refine wc_region ?_
  refine reg_quiet rfl (load_box tab_ok rfl rfl rfl rfl) ?_
  refine reg_quiet rfl (load_box tab_ok rfl rfl rfl rfl) ?_
  refine reg_new2 (call_new hE rfl rfl (arg_A rfl rfl hD1 hD2 (arg_e (arg_e arg_nil))) (.inr (okT_plain _ _ _ _ _ _ _ _)) rfl rfl) rfl ?_
  refine reg_quiet rfl (step_C tab_ok (fun K hk => hk)) ?_
  refine reg_quiet rfl (step_C tab_ok (fun K hk => hk)) ?_
  refine reg_quiet rfl (step_C tab_ok (fun K hk => hk)) ?_
  refine reg_store (store_row tab_ok rfl rfl rfl ⟨_, ⟨rfl, rfl, rfl⟩, rfl⟩ rfl) ?_
  refine reg_quiet rfl (step_C tab_ok (fun K hk => hk)) ?_
  refine reg_nil ?_
  refine seq_n ?_
  refine wc_seq ?_
  refine wc_region ?_
  refine reg_quiet rfl (load_box tab_ok rfl rfl rfl rfl) ?_
  refine reg_new2 (call_new hF rfl rfl (arg_A rfl rfl hE1 hE2 arg_nil) (.inr (okT_plain _ _ _ _ _ _ _ _)) rfl rfl) rfl ?_
  refine reg_quiet rfl (step_C tab_ok (fun K hk => hk)) ?_
  refine reg_quiet rfl (step_C tab_ok (fun K hk => hk)) ?_
  refine reg_quiet rfl (step_C tab_ok (fun K hk => hk)) ?_
  refine reg_store (store_row tab_ok rfl rfl rfl ⟨_, ⟨rfl, rfl, rfl⟩, rfl⟩ rfl) ?_
  refine reg_quiet rfl (step_C tab_ok (fun K hk => hk)) ?_
  refine reg_nil ?_
  refine seq_n ?_
  refine wc_seq ?_
  refine wc_region ?_
  refine reg_quiet rfl (load_box tab_ok rfl rfl rfl rfl) ?_
  refine reg_quiet rfl (call_r hR3 rfl rfl (arg_A rfl rfl hF1 hF2 (arg_e arg_nil)) (.inr (read_plain _ _)) (fun _ => rfl)) ?_
  refine reg_quiet rfl (step_C tab_ok (fun K hk => hk)) ?_
  refine reg_quiet rfl (step_C tab_ok (fun K hk => hk)) ?_
  refine reg_quiet rfl (step_C tab_ok (fun K hk => hk)) ?_
  refine reg_store (store_row tab_ok rfl rfl rfl ⟨_, ⟨rfl, rfl, rfl⟩, rfl⟩ rfl) ?_
  refine reg_quiet rfl (step_C tab_ok (fun K hk => hk)) ?_
  refine reg_nil ?_
  refine seq_n ?_
  refine wc_seq ?_
  refine wc_region ?_
  refine reg_quiet rfl (load_box tab_ok rfl rfl rfl rfl) ?_
  refine reg_quiet rfl (load_box tab_ok rfl rfl rfl rfl) ?_
  refine reg_new (call_new hG rfl rfl (arg_A rfl rfl hA1 hA2 (arg_A rfl rfl hB1 hB2 arg_nil)) (.inr (diff_plain _ _ _ _ _)) rfl rfl) rfl ?_
  refine reg_quiet rfl (step_C tab_ok (fun K hk => hk)) ?_
  refine reg_quiet rfl (step_C tab_ok (fun K hk => hk)) ?_
  refine reg_quiet rfl (step_C tab_ok (fun K hk => hk)) ?_
  refine reg_quiet rfl (step_C tab_ok (fun K hk => hk)) ?_
  refine reg_quiet rfl (step_C tab_ok (fun K hk => hk)) ?_
  refine reg_nil ?_
  refine seq_n ?_
  refine wc_seq ?_
  refine wc_seq ?_
  refine wc_region ?_
  refine reg_quiet rfl (step_C tab_ok (fun K hk => hk)) ?_
  refine reg_quiet rfl (step_C tab_ok (fun K hk => hk)) ?_
  refine reg_quiet rfl (add_int tab_ok rfl rfl (wrap_i64 (by omega) (by omega))) ?_
  refine reg_quiet rfl (step_C tab_ok (fun K hk => hk)) ?_
  refine reg_quiet rfl (add_int tab_ok rfl rfl (wrap_i64 (by omega) (by omega))) ?_
  refine reg_quiet rfl (step_C tab_ok (fun K hk => hk)) ?_
  refine reg_quiet rfl (add_int tab_ok rfl rfl (wrap_i64 (by omega) (by omega))) ?_
  refine reg_quiet rfl (step_C tab_ok (fun K hk => hk)) ?_
  refine reg_quiet rfl (add_int tab_ok rfl rfl (wrap_i64 (by omega) (by omega))) ?_
  refine reg_quiet rfl (step_C tab_ok (fun K hk => hk)) ?_
  refine reg_quiet rfl (step_C tab_ok (fun K hk => hk)) ?_
  refine reg_on rfl rfl rfl ?_
  refine reg_quiet rfl (load_box tab_ok rfl rfl rfl rfl) ?_
  refine reg_on rfl rfl rfl ?_
  refine reg_quiet rfl (load_box tab_ok rfl rfl rfl rfl) ?_
  refine reg_on rfl rfl rfl ?_
  refine reg_quiet rfl (neq_data rfl rfl rfl rfl (by kernel_rfl) (by decide) (block_eq X X)) ?_
  refine reg_quiet rfl (pick_F tab_ok rfl rfl rfl) ?_
  refine reg_quiet rfl (step_C tab_ok (fun K hk => hk)) ?_
  refine reg_on rfl rfl (by assumption) ?_
  refine reg_quiet rfl (step_C tab_ok (fun K hk => hk)) ?_
  refine reg_on rfl rfl (by assumption) ?_
  refine reg_quiet rfl (len_own tab_ok rfl rfl) ?_
  refine reg_on rfl rfl (by assumption) ?_
  refine reg_quiet rfl (step_C tab_ok (fun K hk => hk)) ?_
  refine reg_quiet rfl (pick_F tab_ok rfl (by assumption) rfl) ?_
  refine reg_quiet rfl (step_C tab_ok (fun K hk => hk)) ?_
  refine reg_on rfl rfl rfl ?_
  refine reg_quiet rfl (step_C tab_ok (fun K hk => hk)) ?_
  refine reg_on rfl rfl rfl ?_
  refine reg_quiet rfl (index_own tab_ok rfl rfl rfl rfl rfl (by decide) (by decide)) ?_
  refine reg_on rfl rfl rfl ?_
  refine reg_quiet rfl (load_row (v := .int .i64 1) tab_ok rfl rfl ⟨rfl, 1, rfl, i6 1, rfl, rfl⟩ rfl) ?_
  refine reg_on rfl rfl rfl ?_
  refine reg_quiet rfl (step_C tab_ok (fun K hk => hk)) ?_
  refine reg_quiet rfl (pick_F tab_ok rfl rfl rfl) ?_
  refine reg_nil ?_
  refine seq_n ?_
  refine wc_false rfl rfl ?_
  refine wc_skip ?_
  refine seq_n ?_
  refine wc_seq ?_
  refine wc_region ?_
  refine reg_quiet rfl (load_box tab_ok rfl rfl rfl rfl) ?_
  refine reg_quiet rfl (build_struct tab_ok rfl rfl rfl rfl) ?_
  refine reg_new2 (call_new hQ1 rfl rfl (arg_A rfl rfl hA1 hA2 (arg_op arg_nil)) (.inr (doT_plain _ _ _ _ _ _ _ _ _ _)) rfl rfl) rfl ?_
  refine reg_quiet rfl (step_C tab_ok (fun K hk => hk)) ?_
  refine reg_quiet rfl (step_C tab_ok (fun K hk => hk)) ?_
  refine reg_quiet rfl (step_C tab_ok (fun K hk => hk)) ?_
  refine reg_quiet rfl (step_C tab_ok (fun K hk => hk)) ?_
  refine reg_new (step_C tab_ok (fun K hk => hk)) rfl ?_
  refine reg_new (step_C tab_ok (fun K hk => hk)) rfl ?_
  refine reg_store (store_row tab_ok rfl rfl rfl ⟨_, ⟨rfl, rfl, rfl⟩, rfl⟩ rfl) ?_
  refine reg_store (store_row tab_ok rfl rfl rfl ⟨_, ⟨rfl, rfl, rfl⟩, rfl⟩ rfl) ?_
  refine reg_quiet rfl (step_C tab_ok (fun K hk => hk)) ?_
  refine reg_nil ?_
  refine seq_n ?_
  refine wc_seq ?_
  refine wc_draw (by kernel_rfl) ?_
  refine dreg_q [3] [152, 120, 121] rfl (load_box tab_ok rfl rfl rfl rfl) ?_
  refine dreg_q [1] [88] rfl (slice_ptr_to (m := 31) tab_ok rfl rfl rfl rfl (by decide)) ?_
  refine dreg_q [130] [88] rfl (build_struct tab_ok rfl rfl rfl rfl) ?_
  refine dreg_w2 [129, 131] [120, 121, 88] rfl (call_new hQ2 rfl rfl (arg_A rfl rfl hA1 hA2 (arg_opA rfl (by decide) arg_nil)) (.inr (doT_plain _ _ _ _ _ _ _ _ _ _)) rfl rfl) ?_
  refine dreg_q [132] [1232, 1233] rfl (step_C tab_ok (fun K hk => hk)) ?_
  refine dreg_q [128] [1232, 1233] rfl (step_C tab_ok (fun K hk => hk)) ?_
  refine dreg_q [128] [1232, 1233] rfl (step_C tab_ok (fun K hk => hk)) ?_
  refine dreg_q [128] [1232, 1233] rfl (step_C tab_ok (fun K hk => hk)) ?_
  refine dreg_w [] [] rfl (step_C tab_ok (fun K hk => hk)) ?_
  refine dreg_w [] [] rfl (step_C tab_ok (fun K hk => hk)) ?_
  refine dreg_s [17, 133] [1272, 1232, 1233] (store_row tab_ok rfl rfl rfl ⟨_, ⟨rfl, rfl, rfl⟩, rfl⟩ rfl) ?_
  refine dreg_s [18, 134] [1280] (store_row tab_ok rfl rfl rfl ⟨_, ⟨rfl, rfl, rfl⟩, rfl⟩ rfl) ?_
  refine dreg_q [135] [] rfl (step_C tab_ok (fun K hk => hk)) ?_
  refine dreg_end (by kernel_rfl) ?_
  refine seq_n ?_
  refine wc_seq ?_
  refine wc_region ?_
  refine reg_quiet rfl (load_box tab_ok rfl rfl rfl rfl) ?_
  refine reg_quiet rfl (build_struct tab_ok rfl rfl rfl rfl) ?_
  refine reg_new2 (call_new hQ3 rfl rfl (arg_A rfl rfl hA1 hA2 (arg_op arg_nil)) (.inr (doT_plain _ _ _ _ _ _ _ _ _ _)) rfl rfl) rfl ?_
  refine reg_quiet rfl (step_C tab_ok (fun K hk => hk)) ?_
  refine reg_quiet rfl (step_C tab_ok (fun K hk => hk)) ?_
  refine reg_quiet rfl (step_C tab_ok (fun K hk => hk)) ?_
  refine reg_quiet rfl (step_C tab_ok (fun K hk => hk)) ?_
  refine reg_new (step_C tab_ok (fun K hk => hk)) rfl ?_
  refine reg_new (step_C tab_ok (fun K hk => hk)) rfl ?_
  refine reg_store (store_row tab_ok rfl rfl rfl ⟨_, ⟨rfl, rfl, rfl⟩, rfl⟩ rfl) ?_
  refine reg_store (store_row tab_ok rfl rfl rfl ⟨_, ⟨rfl, rfl, rfl⟩, rfl⟩ rfl) ?_
  refine reg_quiet rfl (step_C tab_ok (fun K hk => hk)) ?_
  refine reg_nil ?_
  refine seq_n ?_
  refine wc_seq ?_
  refine wc_region ?_
  refine reg_quiet rfl (load_box tab_ok rfl rfl rfl rfl) ?_
  refine reg_quiet rfl (call_r hR4 rfl rfl (arg_A rfl rfl hA1 hA2 (arg_e arg_nil)) (.inr (read_plain _ _)) (fun _ => rfl)) ?_
  refine reg_quiet rfl (step_C tab_ok (fun K hk => hk)) ?_
  refine reg_quiet rfl (step_C tab_ok (fun K hk => hk)) ?_
  refine reg_quiet rfl (step_C tab_ok (fun K hk => hk)) ?_
  refine reg_quiet rfl (step_C tab_ok (fun K hk => hk)) ?_
  refine reg_nil ?_
  refine seq_n ?_
  refine wc_seq ?_
  refine wc_region ?_
  refine reg_quiet rfl (call_r hN rfl rfl (arg_e arg_nil) (.inl rfl) (fun _ => rfl)) ?_
  refine reg_quiet rfl (step_C tab_ok (fun K hk => hk)) ?_
  refine reg_quiet rfl (step_C tab_ok (fun K hk => hk)) ?_
  refine reg_quiet rfl (step_C tab_ok (fun K hk => hk)) ?_
  refine reg_quiet rfl (step_C tab_ok (fun K hk => hk)) ?_
  refine reg_nil ?_
  refine seq_n ?_
  refine wc_seq ?_
  refine wc_region ?_
  refine reg_quiet rfl (step_C tab_ok (fun K hk => hk)) ?_
  refine reg_quiet rfl (step_C tab_ok (fun K hk => hk)) ?_
  refine reg_quiet rfl (add_int tab_ok rfl rfl (wrap_i64 (by omega) (by omega))) ?_
  refine reg_quiet rfl (step_C tab_ok (fun K hk => hk)) ?_
  refine reg_quiet rfl (add_int tab_ok rfl rfl (wrap_i64 (by omega) (by omega))) ?_
  refine reg_quiet rfl (step_C tab_ok (fun K hk => hk)) ?_
  refine reg_quiet rfl (step_C tab_ok (fun K hk => hk)) ?_
  refine reg_on rfl rfl rfl ?_
  refine reg_quiet rfl (step_C tab_ok (fun K hk => hk)) ?_
  refine reg_on rfl rfl rfl ?_
  refine reg_quiet rfl (load_box tab_ok rfl rfl ⟨_, rfl, rfl⟩ rfl) ?_
  refine reg_on rfl rfl rfl ?_
  refine reg_quiet rfl (step_C tab_ok (fun K hk => hk)) ?_
  refine reg_quiet rfl (pick_T tab_ok rfl rfl rfl) ?_
  refine reg_quiet rfl (step_C tab_ok (fun K hk => hk)) ?_
  refine reg_on rfl rfl rfl ?_
  refine reg_quiet rfl (step_C tab_ok (fun K hk => hk)) ?_
  refine reg_on rfl rfl rfl ?_
  refine reg_quiet rfl (load_box tab_ok rfl rfl ⟨_, rfl, rfl⟩ rfl) ?_
  refine reg_on rfl rfl rfl ?_
  refine reg_quiet rfl (step_C tab_ok (fun K hk => hk)) ?_
  refine reg_quiet rfl (pick_T tab_ok rfl rfl rfl) ?_
  refine reg_quiet rfl (step_C tab_ok (fun K hk => hk)) ?_
  refine reg_on rfl rfl rfl ?_
  refine reg_quiet rfl (step_C tab_ok (fun K hk => hk)) ?_
  refine reg_on rfl rfl rfl ?_
  refine reg_quiet rfl (load_box tab_ok rfl rfl ⟨_, rfl, rfl⟩ rfl) ?_
  refine reg_on rfl rfl rfl ?_
  refine reg_quiet rfl (step_C tab_ok (fun K hk => hk)) ?_
  refine reg_quiet rfl (pick_T tab_ok rfl rfl rfl) ?_
  refine reg_quiet rfl (step_C tab_ok (fun K hk => hk)) ?_
  refine reg_on rfl rfl rfl ?_
  refine reg_quiet rfl (step_C tab_ok (fun K hk => hk)) ?_
  refine reg_on rfl rfl rfl ?_
  refine reg_quiet rfl (step_C tab_ok (fun K hk => hk)) ?_
  refine reg_quiet rfl (pick_T tab_ok rfl rfl rfl) ?_
  refine reg_quiet rfl (step_C tab_ok (fun K hk => hk)) ?_
  refine reg_on rfl rfl rfl ?_
  refine reg_quiet rfl (step_C tab_ok (fun K hk => hk)) ?_
  refine reg_on rfl rfl rfl ?_
  refine reg_quiet rfl (step_C tab_ok (fun K hk => hk)) ?_
  refine reg_quiet rfl (pick_T tab_ok rfl rfl rfl) ?_
  refine reg_quiet rfl (step_C tab_ok (fun K hk => hk)) ?_
  refine reg_nil ?_
  refine seq_n ?_
  refine wc_ret ?_
  exact ⟨trivial, [], .of rfl rfl rfl rfl rfl ⟨⟨_, rfl, AVLe.of_eq rfl⟩, rfl, trivial⟩ trivial⟩
abbrev L1 : Blks := [zeroBlock, zeroBlock]
abbrev L2 : Blks := [zeroBlock, plainB 3]
abbrev L3 : Blks := [zeroBlock, plainB 4]
theorem lives_is : FnIs Try.prog 23 [] [] (.bool true) [] := by
  have hz : zeros 2 = L1 := rfl
  have hA := new_ok 2 (by decide)
  have hB := write_ok L1 L1 1 zeroBlock (plainB 3) (by decide) rfl
  have hR1 := read_ok L2 L1 1 (plainB 3) (by decide) rfl
  have hC := crash_ok L2 L1 (by decide)
  have hR2 := read_ok L1 L1 1 zeroBlock (by decide) rfl
  have hD := flush_ok L2 L1 (by decide)
  have hE := write_ok L2 L2 1 (plainB 3) (plainB 4) (by decide) rfl
  have hF := crash_ok L3 L2 (by decide)
  have hR3 := read_ok L2 L2 1 (plainB 3) (by decide) rfl
  have hG := differ_ok L1 L1 L2 L1 (by decide) (by decide) rfl
  rw [show diffK L1 L2 (List.length L1) = [1] by decide +kernel] at hG
  have hQ1 := Do_ok L1 L1 ⟨1, 2, []⟩ (by decide)
  rw [show doR L1 ⟨1, 2, []⟩ = ⟨zeroBlock, 1⟩ by decide +kernel, show doA L1 ⟨1, 2, []⟩ = L1 by decide +kernel, show doB L1 L1 ⟨1, 2, []⟩ = L1 by decide +kernel] at hQ1
  have hQ2 := Do_ok L1 L1 ⟨2, 0, (plainB 3).take 31⟩ (by decide)
  rw [show doR L1 ⟨2, 0, (plainB 3).take 31⟩ = ⟨zeroBlock, 1⟩ by decide +kernel, show doA L1 ⟨2, 0, (plainB 3).take 31⟩ = L1 by decide +kernel, show doB L1 L1 ⟨2, 0, (plainB 3).take 31⟩ = L1 by decide +kernel] at hQ2
  have hQ3 := Do_ok L1 L1 ⟨3, 9, []⟩ (by decide)
  rw [show doR L1 ⟨3, 9, []⟩ = ⟨zeroBlock, 0⟩ by decide +kernel, show doA L1 ⟨3, 9, []⟩ = L1 by decide +kernel, show doB L1 L1 ⟨3, 9, []⟩ = L1 by decide +kernel] at hQ3
  have hR4 := read_bad L1 L1 (-1) (by decide)
  exact lives_core (plainB 3) (plainB 4) L1 L1 L2 L1 L1 L1 L2 L2 L3 L2 L2 L2 (plain_is 3) (plain_is 4) hA hB hR1 hC hR2 hD hE hF hR3 hG hQ1 hQ2 hQ3 hR4 (new_bad 0 (by decide)) rfl rfl rfl rfl rfl rfl rfl rfl rfl rfl rfl rfl (by simp) (by simp)
end Go.Proofs.Ytjpjchohpjbknaa

/- Arrays: the laws' arguments. -/
namespace Go.Proofs.Ytjpjchohpjbknaa
open Go.Eng
theorem u8_of {a : Int} (h : (Lit.int .u8 a).wf = true) : 0 ≤ a ∧ a ≤ 255 := by
  simp [Lit.wf, IntKind.min, IntKind.max, IntKind.bits, IntKind.signed] at h
  omega
abbrev encX (x : Int × List (List Int)) : D := encO x.1 x.2
theorem opens_T : Opens Try.prog 56 3 encT fun l => l.length = 3 ∧ ∀ a ∈ l, (Lit.int .u8 a).wf = true :=
  opens_array (P := Try.prog) Try.underlying56 (by kernel_rfl) (by kernel_rfl) (opens_int (P := Try.prog) Try.underlying5)
theorem opens_Ts : Opens Try.prog 22 1 (fun l : List (List Int) => .arr 3 encT l) fun l => l.length ≤ maxLen ∧ ∀ t ∈ l, t.length = 3 ∧ ∀ a ∈ t, (Lit.int .u8 a).wf = true :=
  opens_slice (P := Try.prog) Try.underlying22 (by kernel_rfl) opens_T
theorem opens_X : Opens Try.prog 24 2 encX fun x => (Lit.int .u8 x.1).wf = true ∧ (x.2.length ≤ maxLen ∧ ∀ t ∈ x.2, t.length = 3 ∧ ∀ a ∈ t, (Lit.int .u8 a).wf = true) :=
  Opens.map (opens_struct (P := Try.prog) Try.underlying24 (by kernel_rfl) (fun _ => rfl) (opensF_cons rfl (by kernel_rfl) (opens_int (P := Try.prog) Try.underlying5) (opensF_cons rfl (by kernel_rfl) opens_Ts opensF_nil)))
    (fun q => (q.1, q.2.1)) (fun _ _ => rfl) (fun _ h => ⟨h.1, h.2.1⟩)
theorem three_of {x : List (List Int)} (h : x.length ≤ maxLen ∧ ∀ t ∈ x, t.length = 3 ∧ ∀ a ∈ t, (Lit.int .u8 a).wf = true) : Three x := fun t ht => ⟨(h.2 t ht).1, fun a ha => u8_of ((h.2 t ht).2 a ha)⟩
theorem okWide_array {P : Program} {w : World} {r : Reach} {base : Nat} {t : TypeId} {v : Value} {n : Nat} {e : TypeId} (ht : P.underlying t = some (.array n e)) (h : Value.okWide P w r base t v) : ∃ cs, v = .agg cs ∧ cs.size = P.cellsOf t := by
  simp only [Value.okWide, ht] at h
  obtain ⟨cs, h1, h2, _⟩ := h
  exact ⟨cs, h1, h2⟩
end Go.Proofs.Ytjpjchohpjbknaa
