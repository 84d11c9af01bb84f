/- Ledgers: Text and Parse, and that they fit. -/
import Derived.Test.YtjpjchohpjbknaaLB
import Derived.Test.YtjpjchohpjbknaaEngE

set_option linter.unusedVariables false
set_option linter.unusedSimpArgs false

/- Ledgers: Text. -/
namespace Go.Proofs.Ytjpjchohpjbknaa
open Go.Eng
set_option maxHeartbeats 4000000
set_option maxRecDepth 20000
attribute [local irreducible] WC RegS RegD SeqQ BlkQ ScoQ RegK CutK Sat SatN FnIs LoopQ StepIs OpIs
/-- A use as the type has it. -/
structure OkU (u : LUse) : Prop where
  key : u.key.length = 16
  byt : ∀ b ∈ u.key, 0 ≤ b ∧ b ≤ 255
  shard : 0 ≤ u.range.nonce.shard ∧ u.range.nonce.shard < 4294967296
  ctr : 0 ≤ u.range.nonce.counter ∧ u.range.nonce.counter < 18446744073709551616
  fst : 0 ≤ u.range.first ∧ u.range.first < 4294967296
  lst : 0 ≤ u.range.last ∧ u.range.last < 4294967296
def keyB (k : List Int) : List UInt8 := k.map fun z => z.toNat.toUInt8
theorem keyB_len (k : List Int) : (keyB k).length = k.length := by simp [keyB]
theorem byI_keyB : ∀ (k : List Int), (∀ b ∈ k, 0 ≤ b ∧ b ≤ 255) → byI (keyB k) = k
  | [], _ => rfl
  | z :: k, h => by
    have h1 := byI_keyB k fun b hb => h b (by simp [hb])
    have h2 := h z (by simp)
    simp only [byI, keyB, List.map_cons, List.map_map] at h1 ⊢
    rw [h1]
    congr 1
    simp only [Nat.toUInt8_eq, UInt8.toNat_ofNat']
    omega
/-- The bytes of a use. -/
def rowL (u : LUse) : List UInt8 := useB (keyB u.key) u.range.nonce.shard.toNat u.range.nonce.counter.toNat u.range.first.toNat u.range.last.toNat
theorem rowL_len {u : LUse} (h : OkU u) : (rowL u).length = 36 := useB_len (by rw [keyB_len, h.key]) _ _ _ _
theorem OkU.eq {u : LUse} (h : OkU u) : useOf (keyB u.key) u.range.nonce.shard.toNat u.range.nonce.counter.toNat u.range.first.toNat u.range.last.toNat = u := by
  obtain ⟨k, ⟨⟨s, c⟩, f, l⟩⟩ := u
  simp only [useOf, byI_keyB k h.byt, Int.toNat_of_nonneg h.shard.1, Int.toNat_of_nonneg h.ctr.1, Int.toNat_of_nonneg h.fst.1, Int.toNat_of_nonneg h.lst.1]
theorem row_use {u : LUse} (h : OkU u) : FnIs Try.prog 63 [.d (encUse u)] [] (.d (encB (rowL u))) [] := by
  have h1 := h.shard; have h2 := h.ctr; have h3 := h.fst; have h4 := h.lst
  have := row_is (keyB u.key) u.range.nonce.shard.toNat u.range.nonce.counter.toNat u.range.first.toNat u.range.last.toNat (by rw [keyB_len, h.key]) (by omega) (by omega) (by omega) (by omega)
  rw [h.eq] at this
  exact this
/-- The digits. -/
def hexD : List UInt8 := [48, 49, 50, 51, 52, 53, 54, 55, 56, 57, 97, 98, 99, 100, 101, 102]
def hexC (n : Nat) : UInt8 := hexD.getD n 0
theorem hexD_get {n : Nat} (h : n < 16) : hexD[n]? = some (hexC n) := by
  rw [hexC, List.getD_eq_getElem?_getD, List.getElem?_eq_getElem (show n < hexD.length from h)]
  rfl
def hexB (b : UInt8) : List UInt8 := [hexC (b.toNat / 16), hexC (b.toNat % 16)]
def lineL (u : LUse) : List UInt8 := (rowL u).flatMap hexB ++ [10]
def textL (l : List LUse) : List UInt8 := l.flatMap lineL
theorem hexB_len (l : List UInt8) : (l.flatMap hexB).length = 2 * l.length := by
  induction l with
  | nil => rfl
  | cons b l ih => simp only [List.flatMap_cons, List.length_append, ih, hexB, List.length_cons, List.length_nil]; omega
theorem lineL_len {u : LUse} (h : OkU u) : (lineL u).length = 73 := by rw [lineL, List.length_append, hexB_len, rowL_len h]; rfl
theorem textL_len : ∀ (l : List LUse), (∀ u ∈ l, OkU u) → (textL l).length = 73 * l.length
  | [], _ => rfl
  | u :: l, h => by
    have h1 := textL_len l fun v hv => h v (by simp [hv])
    have h2 := lineL_len (h u (by simp))
    simp only [textL, List.flatMap_cons, List.length_append, List.length_cons] at h1 ⊢
    omega
/-- What stands after i lines and j bytes of the next. -/
def part (l : List LUse) (i : Nat) (r : List UInt8) (j : Nat) : List UInt8 := textL (l.take i) ++ (r.take j).flatMap hexB
theorem part_len {l : List LUse} (h : ∀ u ∈ l, OkU u) {i j : Nat} {r : List UInt8} (hi : i ≤ l.length) (hj : j ≤ r.length) : (part l i r j).length = 73 * i + 2 * j := by
  rw [part, List.length_append, textL_len _ (fun u hu => h u (List.mem_of_mem_take hu)), hexB_len, List.length_take, List.length_take, Nat.min_eq_left hi, Nat.min_eq_left hj]
theorem part_go {l : List LUse} {i j : Nat} {r : List UInt8} {b : UInt8} (hb : r[j]? = some b) : part l i r j ++ [hexC (b.toNat / 16)] ++ [hexC (b.toNat % 16)] = part l i r (j + 1) := by
  rw [part, part, List.take_add_one, hb]
  simp [hexB]
theorem part_end {l : List LUse} {i : Nat} {u : LUse} (hu : l[i]? = some u) (h : OkU u) : part l i (rowL u) 36 ++ [10] = textL (l.take (i + 1)) := by
  rw [part, List.take_of_length_le (l := rowL u) (by rw [rowL_len h]; exact Nat.le_refl _), List.take_add_one (l := l), hu]
  simp [textL, lineL]
theorem part_zero (l : List LUse) (i : Nat) (r : List UInt8) : part l i r 0 = textL (l.take i) := by simp [part]
theorem byI_get {l : List UInt8} {j : Nat} {b : UInt8} (h : l[j]? = some b) : (byI l)[j]? = some (b.toNat : Int) := by simp [byI, h]
theorem text_bad (l : List LUse) (h0 : chkL l ≠ 0) : FnIs Try.prog 39 [.d (encLed l)] [] (.tup (.acons (.d (strD [])) (.acons (.int .i64 (chkL l)) .anil))) [] := by
  have hC := ledcheck_is l
  have hn : (!decide (chkL l = 0)) = true := by rw [decide_eq_false h0]; rfl
  refine fnIs_of tab_ok Try.func39 rfl rfl rfl ?_
  refine wc_seq ?_
  refine wc_region ?_
  refine reg_new (step_C tab_ok (fun K hk => hk)) rfl ?_
  refine reg_quiet rfl (step_C tab_ok (fun K hk => hk)) ?_
  refine reg_quiet rfl (step_C tab_ok (fun K hk => hk)) ?_
  refine reg_nil ?_
  refine seq_n ?_
  refine wc_seq ?_
  refine wc_seq ?_
  refine wc_region ?_
  refine reg_quiet rfl (load_box tab_ok rfl rfl rfl rfl) ?_
  refine reg_quiet rfl (call_r hC rfl rfl (arg_e arg_nil) (.inl rfl) (fun _ => rfl)) ?_
  refine reg_quiet rfl (step_C tab_ok (fun K hk => hk)) ?_
  refine reg_nil ?_
  refine seq_n ?_
  refine wc_seq ?_
  refine wc_region ?_
  refine reg_quiet rfl (step_C tab_ok (fun K hk => hk)) ?_
  refine reg_quiet rfl (step_C tab_ok (fun K hk => hk)) ?_
  refine reg_nil ?_
  refine seq_n ?_
  refine wc_true rfl (by assumption) ?_
  refine wc_seq ?_
  refine wc_region ?_
  refine reg_quiet rfl (step_C tab_ok (fun K hk => hk)) ?_
  refine reg_quiet rfl (step_C tab_ok (fun K hk => hk)) ?_
  refine reg_quiet rfl (step_C tab_ok (fun K hk => hk)) ?_
  refine reg_nil ?_
  refine seq_n ?_
  refine wc_ret ?_
  refine seq_r ?_
  exact ⟨trivial, [], .of rfl rfl rfl rfl rfl ⟨⟨_, rfl, AVLe.of_eq rfl⟩, rfl, trivial⟩ trivial⟩
theorem text_long (l : List LUse) (h0 : chkL l = 0) (hl : 14364 < l.length) : FnIs Try.prog 39 [.d (encLed l)] [] (.tup (.acons (.d (strD [])) (.acons (.d (i6 3)) .anil))) [] := by
  have hC := ledcheck_is l
  rw [h0] at hC
  have hd : decide (14364 < (l.length : Int)) = true := decide_eq_true (by omega)
  refine fnIs_of tab_ok Try.func39 rfl rfl rfl ?_
  refine wc_seq ?_
  refine wc_region ?_
  refine reg_new (step_C tab_ok (fun K hk => hk)) rfl ?_
  refine reg_quiet rfl (step_C tab_ok (fun K hk => hk)) ?_
  refine reg_quiet rfl (step_C tab_ok (fun K hk => hk)) ?_
  refine reg_nil ?_
  refine seq_n ?_
  refine wc_seq ?_
  refine wc_seq ?_
  refine wc_region ?_
  refine reg_quiet rfl (load_box tab_ok rfl rfl rfl rfl) ?_
  refine reg_quiet rfl (call_r hC rfl rfl (arg_e arg_nil) (.inl rfl) (fun _ => rfl)) ?_
  refine reg_quiet rfl (step_C tab_ok (fun K hk => hk)) ?_
  refine reg_nil ?_
  refine seq_n ?_
  refine wc_seq ?_
  refine wc_region ?_
  refine reg_quiet rfl (step_C tab_ok (fun K hk => hk)) ?_
  refine reg_quiet rfl (step_C tab_ok (fun K hk => hk)) ?_
  refine reg_nil ?_
  refine seq_n ?_
  refine wc_false rfl rfl ?_
  refine wc_skip ?_
  refine seq_n ?_
  refine wc_seq ?_
  refine wc_seq ?_
  refine wc_region ?_
  refine reg_quiet rfl (step_C tab_ok (fun K hk => hk)) ?_
  refine reg_quiet rfl (load_box tab_ok rfl rfl ⟨_, rfl, rfl⟩ rfl) ?_
  refine reg_quiet rfl (len_arr tab_ok rfl rfl) ?_
  refine reg_quiet rfl (step_C tab_ok (fun K hk => hk)) ?_
  refine reg_nil ?_
  refine seq_n ?_
  refine wc_true rfl (by assumption) ?_
  refine wc_seq ?_
  refine wc_region ?_
  refine reg_quiet rfl (step_C tab_ok (fun K hk => hk)) ?_
  refine reg_quiet rfl (step_C tab_ok (fun K hk => hk)) ?_
  refine reg_nil ?_
  refine seq_n ?_
  refine wc_ret ?_
  refine seq_r ?_
  exact ⟨trivial, [], .of rfl rfl rfl rfl rfl ⟨⟨_, rfl, AVLe.of_eq rfl⟩, rfl, trivial⟩ trivial⟩
theorem text_zero : FnIs Try.prog 39 [.d (encLed [])] [] (.tup (.acons (.d (strD [])) (.acons (.d (i6 0)) .anil))) [] := by
  have hC := ledcheck_is []
  have h0 : chkL [] = 0 := rfl
  rw [h0] at hC
  refine fnIs_of tab_ok Try.func39 rfl rfl rfl ?_
  refine wc_seq ?_
  refine wc_region ?_
  refine reg_new (step_C tab_ok (fun K hk => hk)) rfl ?_
  refine reg_quiet rfl (step_C tab_ok (fun K hk => hk)) ?_
  refine reg_quiet rfl (step_C tab_ok (fun K hk => hk)) ?_
  refine reg_nil ?_
  refine seq_n ?_
  refine wc_seq ?_
  refine wc_seq ?_
  refine wc_region ?_
  refine reg_quiet rfl (load_box tab_ok rfl rfl rfl rfl) ?_
  refine reg_quiet rfl (call_r hC rfl rfl (arg_e arg_nil) (.inl rfl) (fun _ => rfl)) ?_
  refine reg_quiet rfl (step_C tab_ok (fun K hk => hk)) ?_
  refine reg_nil ?_
  refine seq_n ?_
  refine wc_seq ?_
  refine wc_region ?_
  refine reg_quiet rfl (step_C tab_ok (fun K hk => hk)) ?_
  refine reg_quiet rfl (step_C tab_ok (fun K hk => hk)) ?_
  refine reg_nil ?_
  refine seq_n ?_
  refine wc_false rfl rfl ?_
  refine wc_skip ?_
  refine seq_n ?_
  refine wc_seq ?_
  refine wc_seq ?_
  refine wc_region ?_
  refine reg_quiet rfl (step_C tab_ok (fun K hk => hk)) ?_
  refine reg_quiet rfl (load_box tab_ok rfl rfl ⟨_, rfl, rfl⟩ rfl) ?_
  refine reg_quiet rfl (len_arr tab_ok rfl rfl) ?_
  refine reg_quiet rfl (step_C tab_ok (fun K hk => hk)) ?_
  refine reg_nil ?_
  refine seq_n ?_
  refine wc_false rfl rfl ?_
  refine wc_skip ?_
  refine seq_n ?_
  refine wc_seq ?_
  refine wc_region ?_
  refine reg_new (step_C tab_ok (fun K hk => hk)) rfl ?_
  refine reg_nil ?_
  refine seq_n ?_
  refine wc_seq ?_
  refine wc_seq ?_
  refine wc_region ?_
  refine reg_quiet rfl (step_C tab_ok (fun K hk => hk)) ?_
  refine reg_quiet rfl (load_box tab_ok rfl rfl ⟨_, rfl, rfl⟩ rfl) ?_
  refine reg_quiet rfl (len_arr tab_ok rfl rfl) ?_
  refine reg_quiet rfl (step_C tab_ok (fun K hk => hk)) ?_
  refine reg_nil ?_
  refine seq_n ?_
  refine wc_block ?_
  refine wc_once ?_
  refine wc_seq ?_
  refine wc_region ?_
  refine reg_quiet rfl (step_C tab_ok (fun K hk => hk)) ?_
  refine reg_nil ?_
  refine seq_n ?_
  refine wc_seq ?_
  refine wc_false rfl rfl ?_
  refine wc_exit ?_
  refine seq_x ?_
  refine loop_x ?_
  refine blk_x ?_
  refine seq_n ?_
  refine wc_seq ?_
  refine wc_region ?_
  refine reg_new (call_h [(0, some 160)] bstring_zero rfl rfl rfl (arg_ptr rfl rfl arg_nil) ⟨⟨rfl, rfl, _, _, rfl, rfl, .refl _⟩, trivial⟩ rfl rfl (.inl rfl) rfl rfl) rfl ?_
  refine reg_quiet rfl (step_C tab_ok (fun K hk => hk)) ?_
  refine reg_quiet rfl (step_C tab_ok (fun K hk => hk)) ?_
  refine reg_nil ?_
  refine seq_n ?_
  refine wc_ret ?_
  exact ⟨trivial, [], .of rfl rfl rfl rfl rfl ⟨⟨_, rfl, AVLe.of_eq rfl⟩, rfl, trivial⟩ trivial⟩
theorem text_is (l : List LUse) (hne : l ≠ []) (h0 : chkL l = 0) (hok : ∀ u ∈ l, OkU u) (hL : l.length ≤ 14364) : FnIs Try.prog 39 [.d (encLed l)] [] (.tup (.acons (.d (strD (textL l))) (.acons (.d (i6 0)) .anil))) [] := by
  have hC := ledcheck_is l
  rw [h0] at hC
  have hd : decide (14364 < (l.length : Int)) = false := decide_eq_false (by omega)
  refine fnIs_of tab_ok Try.func39 rfl rfl rfl ?_
  refine wc_seq ?_
  refine wc_region ?_
  refine reg_new (step_C tab_ok (fun K hk => hk)) rfl ?_
  refine reg_quiet rfl (step_C tab_ok (fun K hk => hk)) ?_
  refine reg_quiet rfl (step_C tab_ok (fun K hk => hk)) ?_
  refine reg_nil ?_
  refine seq_n ?_
  refine wc_seq ?_
  refine wc_seq ?_
  refine wc_region ?_
  refine reg_quiet rfl (load_box tab_ok rfl rfl rfl rfl) ?_
  refine reg_quiet rfl (call_r hC rfl rfl (arg_e arg_nil) (.inl rfl) (fun _ => rfl)) ?_
  refine reg_quiet rfl (step_C tab_ok (fun K hk => hk)) ?_
  refine reg_nil ?_
  refine seq_n ?_
  refine wc_seq ?_
  refine wc_region ?_
  refine reg_quiet rfl (step_C tab_ok (fun K hk => hk)) ?_
  refine reg_quiet rfl (step_C tab_ok (fun K hk => hk)) ?_
  refine reg_nil ?_
  refine seq_n ?_
  refine wc_false rfl rfl ?_
  refine wc_skip ?_
  refine seq_n ?_
  refine wc_seq ?_
  refine wc_seq ?_
  refine wc_region ?_
  refine reg_quiet rfl (step_C tab_ok (fun K hk => hk)) ?_
  refine reg_quiet rfl (load_box tab_ok rfl rfl ⟨_, rfl, rfl⟩ rfl) ?_
  refine reg_quiet rfl (len_arr tab_ok rfl rfl) ?_
  refine reg_quiet rfl (step_C tab_ok (fun K hk => hk)) ?_
  refine reg_nil ?_
  refine seq_n ?_
  refine wc_false rfl (by assumption) ?_
  refine wc_skip ?_
  refine seq_n ?_
  refine wc_seq ?_
  refine wc_region ?_
  refine reg_new (step_C tab_ok (fun K hk => hk)) rfl ?_
  refine reg_nil ?_
  refine seq_n ?_
  refine wc_seq ?_
  refine wc_seq ?_
  refine wc_region ?_
  refine reg_quiet rfl (step_C tab_ok (fun K hk => hk)) ?_
  refine reg_quiet rfl (load_box tab_ok rfl rfl ⟨_, rfl, rfl⟩ rfl) ?_
  refine reg_quiet rfl (len_arr tab_ok rfl rfl) ?_
  refine reg_quiet rfl (step_C tab_ok (fun K hk => hk)) ?_
  refine reg_nil ?_
  refine seq_n ?_
  refine wc_block ?_
  refine wc_inv (fun i : Nat => ⟨[(22, .int .i64 i), (21, .int .i64 l.length), (20, .d (.arr 20 encUse l)), (5, .ptr 65 [])], [(65, some (bldRow (Nat.beq (73 * i) 0) 65 66 (73 * i))), (66, some (rowT (textL (l.take i))))], 72, Try.f39.ntmps, 64⟩) (fun i => i ≤ l.length) (fun i => l.length - i) 0 [(65, some 160), (66, none)] (Nat.zero_le _)
    (.of rfl rfl rfl rfl rfl ⟨⟨_, rfl, .refl _⟩, rfl, ⟨_, rfl, .refl _⟩, rfl, ⟨_, rfl, .refl _⟩, rfl, ⟨_, rfl, .refl _⟩, rfl, trivial⟩ ⟨⟨rfl, rfl, _, rfl, RowLe.split2⟩, ⟨rfl, rfl, rfl⟩, trivial⟩) ?_
  intro i hi
  refine wc_of ?_
  refine wc_seq ?_
  refine wc_region ?_
  refine reg_quiet rfl (step_C tab_ok (fun K hk => hk)) ?_
  refine reg_nil ?_
  refine seq_n ?_
  refine wc_seq ?_
  refine wc_cond rfl (fun h3 => ?_) (fun h3 => ?_)
  · have hlt : i < l.length := by have := of_decide_eq_true h3; omega
    obtain ⟨u, hu⟩ : ∃ u, l[i]? = some u := ⟨_, List.getElem?_eq_getElem hlt⟩
    have hu' : l[((i : Int)).toNat]? = some u := by rw [Int.toNat_natCast]; exact hu
    have hok1 := hok
    replace hok := hok u (List.mem_of_getElem? hu)
    have hr36 := rowL_len hok
    refine wc_skip ?_
    refine seq_n ?_
    refine wc_seq ?_
    refine wc_block ?_
    refine wc_seq ?_
    refine wc_region ?_
    refine reg_quiet rfl (index_arr tab_ok rfl rfl rfl rfl rfl (by omega) (by assumption)) ?_
    refine reg_quiet rfl (load_i tab_ok rfl rfl) ?_
    refine reg_new (step_C tab_ok (fun K hk => hk)) rfl ?_
    refine reg_store (store_row tab_ok rfl rfl rfl ⟨_, ⟨rfl, rfl, rfl⟩, rfl⟩ rfl) ?_
    refine reg_nil ?_
    refine seq_n ?_
    refine wc_seq ?_
    refine wc_seq ?_
    refine wc_region ?_
    refine reg_quiet rfl (load_box tab_ok rfl rfl rfl rfl) ?_
    refine reg_quiet rfl (call_r (row_use hok) rfl rfl (arg_e arg_nil) (.inl rfl) (fun _ => rfl)) ?_
    refine reg_quiet rfl (len_arr tab_ok rfl rfl) ?_
    refine reg_quiet rfl (step_C tab_ok (fun K hk => hk)) ?_
    refine reg_nil ?_
    refine seq_n ?_
    refine wc_block ?_
    generalize Nat.beq (73 * i) 0 = b0
    refine wc_inv (fun j : Nat => ⟨[(29, .int .i64 j), (28, .int .i64 (byI (rowL u)).length), (27, .d (encB (rowL u))), (22, .int .i64 i), (21, .int .i64 l.length), (20, .d (.arr 20 encUse l)), (5, .ptr 65 [])], [(65, some (bldRow (bif Nat.beq j 0 then b0 else false) 65 66 (73 * i + 2 * j))), (66, some (rowT (part l i (rowL u) j)))], 72, Try.f39.ntmps, 64⟩) (fun j => j ≤ 36) (fun j => 36 - j) 0 [] (Nat.zero_le _)
      (by rw [← part_zero l i (rowL u)]; cases b0 <;> exact .of rfl rfl rfl rfl rfl ⟨⟨_, rfl, .refl _⟩, rfl, ⟨_, rfl, .refl _⟩, rfl, ⟨_, rfl, .refl _⟩, rfl, ⟨_, rfl, .refl _⟩, rfl, ⟨_, rfl, .refl _⟩, rfl, ⟨_, rfl, .refl _⟩, rfl, ⟨_, rfl, .refl _⟩, rfl, trivial⟩ ⟨⟨rfl, rfl, _, rfl, .refl _⟩, ⟨rfl, rfl, _, rfl, .refl _⟩, trivial⟩) ?_
    intro j hj
    refine wc_of ?_
    generalize (bif Nat.beq j 0 then b0 else false) = b1
    have hbl : (byI (rowL u)).length = 36 := by rw [byI_len, hr36]
    refine wc_seq ?_
    refine wc_region ?_
    refine reg_quiet rfl (step_C tab_ok (fun K hk => hk)) ?_
    refine reg_nil ?_
    refine seq_n ?_
    refine wc_seq ?_
    refine wc_cond rfl (fun h4 => ?_) (fun h4 => ?_)
    · have hjl : j < 36 := by have := of_decide_eq_true h4; omega
      obtain ⟨b, hb⟩ : ∃ b, (rowL u)[j]? = some b := ⟨_, List.getElem?_eq_getElem (by omega)⟩
      have hb' : (byI (rowL u))[((j : Int)).toNat]? = some (b.toNat : Int) := by rw [Int.toNat_natCast]; exact byI_get hb
      have hb8 : b.toNat < 256 := b.toNat_lt
      have hd1 := hexD_get (n := b.toNat / 16) (by omega)
      have hd2 := hexD_get (n := b.toNat % 16) (by omega)
      have hpl := part_len hok1 (i := i) (j := j) (r := rowL u) hi (by omega)
      have hp1 : 73 * i + 2 * j + 1 ≤ 1048576 := by omega
      have hpl2 : (part l i (rowL u) j ++ [hexC (b.toNat / 16)]).length = 73 * i + 2 * j + 1 := by rw [List.length_append, hpl]; rfl
      have hp2 : 73 * i + 2 * j + 1 + 1 ≤ 1048576 := by omega
      have hgo := part_go (l := l) (i := i) hb
      refine wc_skip ?_
      refine seq_n ?_
      refine wc_seq ?_
      refine wc_block ?_
      refine wc_seq ?_
      refine wc_region ?_
      refine reg_quiet rfl (index_arr tab_ok rfl rfl rfl rfl rfl (by omega) (by assumption)) ?_
      refine reg_quiet rfl (load_i tab_ok rfl rfl) ?_
      refine reg_quiet rfl (step_C tab_ok (fun K hk => hk)) ?_
      refine reg_nil ?_
      refine seq_n ?_
      refine wc_seq ?_
      refine wc_region ?_
      refine reg_quiet rfl (step_C tab_ok (fun K hk => hk)) ?_
      refine reg_quiet rfl (shr_nat (a := b.toNat) (s := 4) (m := b.toNat / 16) rfl rfl (by decide) rfl) ?_
      refine reg_quiet rfl (index_s (l := hexD) (m := b.toNat / 16) tab_ok rfl rfl rfl hd1) ?_
      refine reg_do rfl (call_h [(0, some 65), (1, some 66)] (writebyte_is b1 (part l i (rowL u) j) (hexC (b.toNat / 16)) (73 * i + 2 * j) hpl hp1) rfl rfl rfl (arg_ptr rfl rfl (arg_e arg_nil)) ⟨⟨rfl, (by cases b1 <;> rfl), _, _, rfl, rfl, (by cases b1 <;> exact .refl _)⟩, ⟨rfl, rfl, _, _, rfl, rfl, .refl _⟩, trivial⟩ rfl rfl (.inl rfl) rfl rfl) rfl rfl ?_
      refine reg_nil ?_
      refine seq_n ?_
      refine wc_region ?_
      refine reg_quiet rfl (step_C tab_ok (fun K hk => hk)) ?_
      refine reg_quiet rfl (and_nat (a := b.toNat) (b := 15) (m := b.toNat % 16) rfl rfl rfl hb8 (by decide) (Nat.and_two_pow_sub_one_eq_mod b.toNat 4)) ?_
      refine reg_quiet rfl (index_s (l := hexD) (m := b.toNat % 16) tab_ok rfl rfl rfl hd2) ?_
      refine reg_do rfl (call_h [(0, some 65), (1, some 128)] (writebyte_is false (part l i (rowL u) j ++ [hexC (b.toNat / 16)]) (hexC (b.toNat % 16)) (73 * i + 2 * j + 1) hpl2 hp2) rfl rfl rfl (arg_ptr rfl rfl (arg_e arg_nil)) ⟨⟨rfl, rfl, _, _, rfl, rfl, .refl _⟩, ⟨rfl, rfl, _, _, rfl, rfl, .refl _⟩, trivial⟩ rfl rfl (.inl rfl) rfl rfl) rfl rfl ?_
      refine reg_nil ?_
      refine blk_n ?_
      refine seq_n ?_
      refine wc_region ?_
      refine reg_quiet rfl (add_int tab_ok rfl rfl (wrap_i64 (by omega) (by omega))) ?_
      refine reg_quiet rfl (step_C tab_ok (fun K hk => hk)) ?_
      refine reg_nil ?_
      exact loop_n (j + 1) [(66, some 160)] hjl (show 36 - (j + 1) < 36 - j by omega) (.of rfl rfl rfl rfl rfl ⟨⟨_, rfl, .refl _⟩, rfl, ⟨_, rfl, .refl _⟩, rfl, ⟨_, rfl, .refl _⟩, rfl, ⟨_, rfl, .refl _⟩, rfl, ⟨_, rfl, .refl _⟩, rfl, ⟨_, rfl, .refl _⟩, rfl, ⟨_, rfl, .refl _⟩, rfl, trivial⟩ ⟨⟨rfl, rfl, _, rfl, .refl _⟩, ⟨rfl, rfl, _, rfl, RowLe.of_eq (congrArg rowT hgo)⟩, trivial⟩)
    · have he : j = 36 := by have := of_decide_eq_false h4; omega
      subst he
      have hpl3 : (part l i (rowL u) 36).length = 73 * i + 72 := part_len hok1 hi (by omega)
      have hp3 : 73 * i + 72 + 1 ≤ 1048576 := by omega
      refine wc_exit ?_
      refine seq_x ?_
      refine loop_x ?_
      refine blk_x ?_
      refine seq_n ?_
      refine wc_region ?_
      refine reg_do rfl (call_h [(0, some 65), (1, some 66)] (writebyte_is b1 (part l i (rowL u) 36) 10 (73 * i + 72) hpl3 hp3) rfl rfl rfl (arg_ptr rfl rfl (arg_e arg_nil)) ⟨⟨rfl, (by cases b1 <;> rfl), _, _, rfl, rfl, (by cases b1 <;> exact .refl _)⟩, ⟨rfl, rfl, _, _, rfl, rfl, .refl _⟩, trivial⟩ rfl rfl (.inl rfl) rfl rfl) rfl rfl ?_
      refine reg_nil ?_
      refine blk_n ?_
      refine seq_n ?_
      refine wc_region ?_
      refine reg_quiet rfl (add_int tab_ok rfl rfl (wrap_i64 (by omega) (by omega))) ?_
      refine reg_quiet rfl (step_C tab_ok (fun K hk => hk)) ?_
      refine reg_nil ?_
      exact loop_n (i + 1) [(66, some 80)] hlt (by omega) (.of rfl rfl rfl rfl rfl ⟨⟨_, rfl, .refl _⟩, rfl, ⟨_, rfl, .refl _⟩, rfl, ⟨_, rfl, .refl _⟩, rfl, ⟨_, rfl, .refl _⟩, rfl, trivial⟩ ⟨⟨rfl, rfl, _, rfl, .refl _⟩, ⟨rfl, rfl, _, rfl, RowLe.of_eq (congrArg rowT (part_end hu hok))⟩, trivial⟩)
  · have he : i = l.length := by have := of_decide_eq_false h3; omega
    subst he
    have hpos : 0 < l.length := List.length_pos_iff.2 hne
    have htl := textL_len l hok
    have htn : textL l ≠ [] := fun e => by rw [e] at htl; simp at htl; omega
    have hp4 : 73 * l.length ≤ 1048576 := by omega
    have hbz : Nat.beq (73 * l.length) 0 = false := by
      cases hz : Nat.beq (73 * l.length) 0 with
      | false => rfl
      | true => have := Nat.eq_of_beq_eq_true hz; omega
    rw [hbz, List.take_length]
    refine wc_exit ?_
    refine seq_x ?_
    refine loop_x ?_
    refine blk_x ?_
    refine seq_n ?_
    refine wc_seq ?_
    refine wc_region ?_
    refine reg_new2 (call_h [(0, some 65), (1, some 66)] (bstring_is (textL l) (73 * l.length) htl htn hp4) rfl rfl rfl (arg_ptr rfl rfl arg_nil) ⟨⟨rfl, rfl, _, _, rfl, rfl, .refl _⟩, ⟨rfl, rfl, _, _, rfl, rfl, .refl _⟩, trivial⟩ rfl rfl (.inl rfl) rfl rfl) rfl ?_
    refine reg_quiet rfl (step_C tab_ok (fun K hk => hk)) ?_
    refine reg_quiet rfl (step_C tab_ok (fun K hk => hk)) ?_
    refine reg_nil ?_
    refine seq_n ?_
    refine wc_ret ?_
    exact ⟨trivial, [], .of rfl rfl rfl rfl rfl ⟨⟨_, rfl, AVLe.of_eq rfl⟩, rfl, trivial⟩ trivial⟩
end Go.Proofs.Ytjpjchohpjbknaa

/- strings: IndexByte, Index of one byte, Cut at one byte. -/
namespace Go.Proofs.Ytjpjchohpjbknaa
open Go.Eng
set_option maxHeartbeats 2000000
set_option maxRecDepth 20000
attribute [local irreducible] WC RegS RegD SeqQ BlkQ ScoQ RegK CutK Sat SatN FnIs LoopQ StepIs OpIs
theorem u8_back (b : UInt8) : ((b.toNat : Int)).toNat.toUInt8 = b := by simp
theorem ix_low (l : List UInt8) (b : UInt8) : FnIs Try.prog 103 [.d (strD l), .int .u8 b.toNat] [] (.int .i64 (Lib.indexByte l b)) [] := by
  refine fnIs_of tab_ok Try.func103 rfl rfl rfl ?_
  refine wc_seq ?_
  refine wc_region ?_
  refine reg_quiet rfl (step_C tab_ok (fun K hk => hk)) ?_
  refine reg_nil ?_
  refine seq_n ?_
  refine wc_seq ?_
  refine wc_region ?_
  refine reg_quiet rfl (step_C tab_ok (fun K hk => hk)) ?_
  refine reg_quiet rfl (step_C tab_ok (fun K hk => hk)) ?_
  refine reg_quiet rfl (native_ix rfl rfl rfl rfl rfl rfl rfl (by rw [u8_back])) ?_
  refine reg_quiet rfl (step_C tab_ok (fun K hk => hk)) ?_
  refine reg_nil ?_
  refine seq_n ?_
  refine wc_ret ?_
  exact ⟨trivial, [], .of rfl rfl rfl rfl rfl ⟨⟨_, rfl, AVLe.of_eq rfl⟩, rfl, trivial⟩ trivial⟩
theorem index_byte (l : List UInt8) (b : UInt8) : FnIs Try.prog 88 [.d (strD l), .int .u8 b.toNat] [] (.int .i64 (Lib.indexByte l b)) [] := by
  refine fnIs_of tab_ok Try.func88 rfl rfl rfl ?_
  refine wc_seq ?_
  refine wc_region ?_
  refine reg_quiet rfl (step_C tab_ok (fun K hk => hk)) ?_
  refine reg_nil ?_
  refine seq_n ?_
  refine wc_seq ?_
  refine wc_region ?_
  refine reg_quiet rfl (step_C tab_ok (fun K hk => hk)) ?_
  refine reg_quiet rfl (step_C tab_ok (fun K hk => hk)) ?_
  refine reg_quiet rfl (call_r (ix_low l b) rfl rfl (arg_e (arg_e arg_nil)) (.inl rfl) (fun _ => rfl)) ?_
  refine reg_quiet rfl (step_C tab_ok (fun K hk => hk)) ?_
  refine reg_nil ?_
  refine seq_n ?_
  refine wc_ret ?_
  exact ⟨trivial, [], .of rfl rfl rfl rfl rfl ⟨⟨_, rfl, AVLe.of_eq rfl⟩, rfl, trivial⟩ trivial⟩
theorem index_one (l : List UInt8) (b : UInt8) : FnIs Try.prog 102 [.d (strD l), .d (strD [b])] [] (.int .i64 (Lib.indexByte l b)) [] := by
  have h0 : Lib.indexByte [b] b = 0 := by simp [Lib.indexByte]
  refine fnIs_of tab_ok Try.func102 rfl rfl rfl ?_
  cases hb : decide ([b] = l) with
  | true =>
    refine wc_seq ?_
    refine wc_region ?_
    refine reg_quiet rfl (step_C tab_ok (fun K hk => hk)) ?_
    refine reg_nil ?_
    refine seq_n ?_
    refine wc_seq ?_
    refine wc_region ?_
    refine reg_quiet rfl (step_C tab_ok (fun K hk => hk)) ?_
    refine reg_quiet rfl (len_s tab_ok rfl rfl) ?_
    refine reg_quiet rfl (step_C tab_ok (fun K hk => hk)) ?_
    refine reg_nil ?_
    refine seq_n ?_
    refine wc_seq ?_
    refine wc_block ?_
    refine wc_seq ?_
    refine wc_region ?_
    refine reg_quiet rfl (step_C tab_ok (fun K hk => hk)) ?_
    refine reg_quiet rfl (step_C tab_ok (fun K hk => hk)) ?_
    refine reg_quiet rfl (step_C tab_ok (fun K hk => hk)) ?_
    refine reg_on rfl rfl rfl ?_
    refine reg_quiet rfl (step_C tab_ok (fun K hk => hk)) ?_
    refine reg_on rfl rfl rfl ?_
    refine reg_quiet rfl (step_C tab_ok (fun K hk => hk)) ?_
    refine reg_on rfl rfl rfl ?_
    refine reg_quiet rfl (eql_s tab_ok rfl rfl rfl) ?_
    refine reg_quiet rfl (pick_F tab_ok rfl rfl rfl) ?_
    refine reg_quiet rfl (step_C tab_ok (fun K hk => hk)) ?_
    refine reg_nil ?_
    refine seq_n ?_
    refine wc_true rfl (by assumption) ?_
    refine wc_seq ?_
    refine wc_region ?_
    refine reg_quiet rfl (step_C tab_ok (fun K hk => hk)) ?_
    refine reg_nil ?_
    refine seq_n ?_
    refine wc_ret ?_
    refine blk_r ?_
    refine seq_r ?_
    have hl := of_decide_eq_true hb
    subst hl
    exact ⟨trivial, [], .of rfl rfl rfl rfl rfl ⟨⟨_, rfl, AVLe.of_eq (by rw [h0]; rfl)⟩, rfl, trivial⟩ trivial⟩
  | false =>
    refine wc_seq ?_
    refine wc_region ?_
    refine reg_quiet rfl (step_C tab_ok (fun K hk => hk)) ?_
    refine reg_nil ?_
    refine seq_n ?_
    refine wc_seq ?_
    refine wc_region ?_
    refine reg_quiet rfl (step_C tab_ok (fun K hk => hk)) ?_
    refine reg_quiet rfl (len_s tab_ok rfl rfl) ?_
    refine reg_quiet rfl (step_C tab_ok (fun K hk => hk)) ?_
    refine reg_nil ?_
    refine seq_n ?_
    refine wc_seq ?_
    refine wc_block ?_
    refine wc_seq ?_
    refine wc_region ?_
    refine reg_quiet rfl (step_C tab_ok (fun K hk => hk)) ?_
    refine reg_quiet rfl (step_C tab_ok (fun K hk => hk)) ?_
    refine reg_quiet rfl (step_C tab_ok (fun K hk => hk)) ?_
    refine reg_on rfl rfl rfl ?_
    refine reg_quiet rfl (step_C tab_ok (fun K hk => hk)) ?_
    refine reg_on rfl rfl rfl ?_
    refine reg_quiet rfl (step_C tab_ok (fun K hk => hk)) ?_
    refine reg_on rfl rfl rfl ?_
    refine reg_quiet rfl (eql_s tab_ok rfl rfl rfl) ?_
    refine reg_quiet rfl (pick_F tab_ok rfl rfl rfl) ?_
    refine reg_quiet rfl (step_C tab_ok (fun K hk => hk)) ?_
    refine reg_nil ?_
    refine seq_n ?_
    refine wc_false rfl (by assumption) ?_
    refine wc_seq ?_
    refine wc_region ?_
    refine reg_quiet rfl (step_C tab_ok (fun K hk => hk)) ?_
    refine reg_quiet rfl (step_C tab_ok (fun K hk => hk)) ?_
    refine reg_quiet rfl (step_C tab_ok (fun K hk => hk)) ?_
    refine reg_nil ?_
    refine seq_n ?_
    refine wc_true rfl rfl ?_
    refine wc_seq ?_
    refine wc_region ?_
    refine reg_quiet rfl (step_C tab_ok (fun K hk => hk)) ?_
    refine reg_quiet rfl (step_C tab_ok (fun K hk => hk)) ?_
    refine reg_quiet rfl (index_s (l := [b]) (m := 0) tab_ok rfl rfl rfl rfl) ?_
    refine reg_quiet rfl (call_r (ix_low l b) rfl rfl (arg_e (arg_e arg_nil)) (.inl rfl) (fun _ => rfl)) ?_
    refine reg_quiet rfl (step_C tab_ok (fun K hk => hk)) ?_
    refine reg_nil ?_
    refine seq_n ?_
    refine wc_ret ?_
    refine blk_r ?_
    refine seq_r ?_
    exact ⟨trivial, [], .of rfl rfl rfl rfl rfl ⟨⟨_, rfl, AVLe.of_eq rfl⟩, rfl, trivial⟩ trivial⟩
/-- The parts of a string at the first byte b. -/
def cutL : List UInt8 → UInt8 → Option (List UInt8 × List UInt8)
  | [], _ => none
  | a :: l, b => if a == b then some ([], l) else (cutL l b).map fun p => (a :: p.1, p.2)
theorem cutL_none : ∀ {l : List UInt8} {b : UInt8}, cutL l b = none → Lib.indexByte l b = -1
  | [], _, _ => rfl
  | a :: l, b, h => by
    unfold cutL at h
    unfold Lib.indexByte
    split at h
    · cases h
    · rename_i hab
      rw [if_neg hab]
      have := cutL_none (l := l) (b := b) (by simpa using h)
      rw [this]; rfl
theorem cutL_some : ∀ {l : List UInt8} {b : UInt8} {p q : List UInt8}, cutL l b = some (p, q) → Lib.indexByte l b = (p.length : Int) ∧ l = p ++ b :: q
  | [], _, _, _, h => by cases h
  | a :: l, b, p, q, h => by
    unfold cutL at h
    unfold Lib.indexByte
    split at h
    · rename_i hab
      cases h
      rw [if_pos hab]
      simp only [beq_iff_eq] at hab
      subst hab
      exact ⟨rfl, rfl⟩
    · rename_i hab
      rw [if_neg hab]
      obtain ⟨⟨p', q'⟩, h1, h2⟩ := Option.map_eq_some_iff.1 h
      cases h2
      obtain ⟨h3, h4⟩ := cutL_some h1
      rw [h3]
      refine ⟨?_, by rw [h4]; rfl⟩
      have : (((p'.length : Int)) == -1) = false := by rw [beq_eq_false_iff_ne]; omega
      rw [this]
      simp
theorem strings_len_ok {p q l : List UInt8} {b : UInt8} (h : l = p ++ b :: q) : p.length + 1 ≤ l.length := by rw [h]; simp
theorem cut_low_some (l p q : List UInt8) (b : UInt8) (h : cutL l b = some (p, q)) (hL : l.length ≤ 1000000000) : FnIs Try.prog 87 [.d (strD l), .d (strD [b])] [] (.tup (.acons (.d (strD p)) (.acons (.d (strD q)) (.acons (.d (.sc (.bool true))) .anil)))) [] := by
  obtain ⟨h1, h2⟩ := cutL_some h
  have hix := index_one l b
  rw [h1] at hix
  have hl2 : p.length + 1 ≤ l.length := strings_len_ok h2
  have hl1 : p.length ≤ l.length := by omega
  have ht1 : l.take p.length = p := by rw [h2]; simp
  have hd1 : l.drop (p.length + 1) = q := by rw [h2]; simp
  have hge : decide ((0 : Int) ≤ p.length) = true := decide_eq_true (by omega)
  have w20 : IntKind.i64.wrap ((p.length : Int) + ([b].length : Nat)) = ((p.length + 1 : Nat) : Int) := by rw [wrap_i64 (by simp; omega) (by simp; omega)]; simp
  refine fnIs_of tab_ok Try.func87 rfl rfl rfl ?_
  refine wc_seq ?_
  refine wc_region ?_
  refine reg_quiet rfl (step_C tab_ok (fun K hk => hk)) ?_
  refine reg_quiet rfl (step_C tab_ok (fun K hk => hk)) ?_
  refine reg_quiet rfl (step_C tab_ok (fun K hk => hk)) ?_
  refine reg_nil ?_
  refine seq_n ?_
  refine wc_seq ?_
  refine wc_seq ?_
  refine wc_region ?_
  refine reg_quiet rfl (step_C tab_ok (fun K hk => hk)) ?_
  refine reg_quiet rfl (step_C tab_ok (fun K hk => hk)) ?_
  refine reg_quiet rfl (call_r hix rfl rfl (arg_e (arg_e arg_nil)) (.inl rfl) (fun _ => rfl)) ?_
  refine reg_quiet rfl (step_C tab_ok (fun K hk => hk)) ?_
  refine reg_nil ?_
  refine seq_n ?_
  refine wc_seq ?_
  refine wc_region ?_
  refine reg_quiet rfl (step_C tab_ok (fun K hk => hk)) ?_
  refine reg_quiet rfl (step_C tab_ok (fun K hk => hk)) ?_
  refine reg_nil ?_
  refine seq_n ?_
  refine wc_true rfl rfl ?_
  refine wc_seq ?_
  refine wc_draw (by kernel_rfl) ?_
  refine dreg_q [0] [] rfl (step_C tab_ok (fun K hk => hk)) ?_
  refine dreg_q [7] [] rfl (step_C tab_ok (fun K hk => hk)) ?_
  refine dreg_q [13, 14] [] rfl (str_to (hi := p.length) tab_ok rfl rfl rfl hl1 ht1) ?_
  refine dreg_q [0] [] rfl (step_C tab_ok (fun K hk => hk)) ?_
  refine dreg_q [7] [] rfl (step_C tab_ok (fun K hk => hk)) ?_
  refine dreg_q [1] [] rfl (step_C tab_ok (fun K hk => hk)) ?_
  refine dreg_q [18] [] rfl (len_s tab_ok rfl rfl) ?_
  refine dreg_q [17, 19] [] rfl (add_int (m := ((p.length + 1 : Nat) : Int)) tab_ok rfl rfl w20) ?_
  refine dreg_q [16, 20] [] rfl (str_from (lo := p.length + 1) tab_ok rfl rfl rfl hl2 hd1) ?_
  refine dreg_q [15] [] rfl (step_C tab_ok (fun K hk => hk)) ?_
  refine dreg_q [21] [] rfl (step_C tab_ok (fun K hk => hk)) ?_
  refine dreg_q [] [] rfl (step_C tab_ok (fun K hk => hk)) ?_
  refine dreg_end (by kernel_rfl) ?_
  refine seq_n ?_
  refine wc_ret ?_
  refine seq_r ?_
  exact ⟨trivial, [], .of rfl rfl rfl rfl rfl ⟨⟨_, rfl, AVLe.of_eq rfl⟩, rfl, trivial⟩ trivial⟩
theorem cut_low_none (l : List UInt8) (b : UInt8) (h : cutL l b = none) : FnIs Try.prog 87 [.d (strD l), .d (strD [b])] [] (.tup (.acons (.d (strD l)) (.acons (.d (strD [])) (.acons (.d (.sc (.bool false))) .anil)))) [] := by
  have hix := index_one l b
  rw [cutL_none h] at hix
  refine fnIs_of tab_ok Try.func87 rfl rfl rfl ?_
  refine wc_seq ?_
  refine wc_region ?_
  refine reg_quiet rfl (step_C tab_ok (fun K hk => hk)) ?_
  refine reg_quiet rfl (step_C tab_ok (fun K hk => hk)) ?_
  refine reg_quiet rfl (step_C tab_ok (fun K hk => hk)) ?_
  refine reg_nil ?_
  refine seq_n ?_
  refine wc_seq ?_
  refine wc_seq ?_
  refine wc_region ?_
  refine reg_quiet rfl (step_C tab_ok (fun K hk => hk)) ?_
  refine reg_quiet rfl (step_C tab_ok (fun K hk => hk)) ?_
  refine reg_quiet rfl (call_r hix rfl rfl (arg_e (arg_e arg_nil)) (.inl rfl) (fun _ => rfl)) ?_
  refine reg_quiet rfl (step_C tab_ok (fun K hk => hk)) ?_
  refine reg_nil ?_
  refine seq_n ?_
  refine wc_seq ?_
  refine wc_region ?_
  refine reg_quiet rfl (step_C tab_ok (fun K hk => hk)) ?_
  refine reg_quiet rfl (step_C tab_ok (fun K hk => hk)) ?_
  refine reg_nil ?_
  refine seq_n ?_
  refine wc_false rfl rfl ?_
  refine wc_skip ?_
  refine seq_n ?_
  refine wc_seq ?_
  refine wc_region ?_
  refine reg_quiet rfl (step_C tab_ok (fun K hk => hk)) ?_
  refine reg_quiet rfl (step_C tab_ok (fun K hk => hk)) ?_
  refine reg_quiet rfl (step_C tab_ok (fun K hk => hk)) ?_
  refine reg_quiet rfl (step_C tab_ok (fun K hk => hk)) ?_
  refine reg_nil ?_
  refine seq_n ?_
  refine wc_ret ?_
  exact ⟨trivial, [], .of rfl rfl rfl rfl rfl ⟨⟨_, rfl, AVLe.of_eq rfl⟩, rfl, trivial⟩ trivial⟩
theorem cut_some (l p q : List UInt8) (b : UInt8) (h : cutL l b = some (p, q)) (hL : l.length ≤ 1000000000) : FnIs Try.prog 66 [.d (strD l), .d (strD [b])] [] (.tup (.acons (.d (strD p)) (.acons (.d (strD q)) (.acons (.d (.sc (.bool true))) .anil)))) [] := by
  have hix := cut_low_some l p q b h hL
  refine fnIs_of tab_ok Try.func66 rfl rfl rfl ?_
  refine wc_seq ?_
  refine wc_region ?_
  refine reg_quiet rfl (step_C tab_ok (fun K hk => hk)) ?_
  refine reg_quiet rfl (step_C tab_ok (fun K hk => hk)) ?_
  refine reg_quiet rfl (step_C tab_ok (fun K hk => hk)) ?_
  refine reg_nil ?_
  refine seq_n ?_
  refine wc_seq ?_
  refine wc_region ?_
  refine reg_quiet rfl (step_C tab_ok (fun K hk => hk)) ?_
  refine reg_quiet rfl (step_C tab_ok (fun K hk => hk)) ?_
  refine reg_quiet rfl (call_r hix rfl rfl (arg_e (arg_e arg_nil)) (.inl rfl) (fun _ => rfl)) ?_
  refine reg_quiet rfl (step_C tab_ok (fun K hk => hk)) ?_
  refine reg_quiet rfl (step_C tab_ok (fun K hk => hk)) ?_
  refine reg_quiet rfl (step_C tab_ok (fun K hk => hk)) ?_
  refine reg_quiet rfl (step_C tab_ok (fun K hk => hk)) ?_
  refine reg_quiet rfl (step_C tab_ok (fun K hk => hk)) ?_
  refine reg_quiet rfl (step_C tab_ok (fun K hk => hk)) ?_
  refine reg_nil ?_
  refine seq_n ?_
  refine wc_ret ?_
  exact ⟨trivial, [], .of rfl rfl rfl rfl rfl ⟨⟨_, rfl, AVLe.of_eq rfl⟩, rfl, trivial⟩ trivial⟩
theorem cut_none (l : List UInt8) (b : UInt8) (h : cutL l b = none) : FnIs Try.prog 66 [.d (strD l), .d (strD [b])] [] (.tup (.acons (.d (strD l)) (.acons (.d (strD [])) (.acons (.d (.sc (.bool false))) .anil)))) [] := by
  have hix := cut_low_none l b h
  refine fnIs_of tab_ok Try.func66 rfl rfl rfl ?_
  refine wc_seq ?_
  refine wc_region ?_
  refine reg_quiet rfl (step_C tab_ok (fun K hk => hk)) ?_
  refine reg_quiet rfl (step_C tab_ok (fun K hk => hk)) ?_
  refine reg_quiet rfl (step_C tab_ok (fun K hk => hk)) ?_
  refine reg_nil ?_
  refine seq_n ?_
  refine wc_seq ?_
  refine wc_region ?_
  refine reg_quiet rfl (step_C tab_ok (fun K hk => hk)) ?_
  refine reg_quiet rfl (step_C tab_ok (fun K hk => hk)) ?_
  refine reg_quiet rfl (call_r hix rfl rfl (arg_e (arg_e arg_nil)) (.inl rfl) (fun _ => rfl)) ?_
  refine reg_quiet rfl (step_C tab_ok (fun K hk => hk)) ?_
  refine reg_quiet rfl (step_C tab_ok (fun K hk => hk)) ?_
  refine reg_quiet rfl (step_C tab_ok (fun K hk => hk)) ?_
  refine reg_quiet rfl (step_C tab_ok (fun K hk => hk)) ?_
  refine reg_quiet rfl (step_C tab_ok (fun K hk => hk)) ?_
  refine reg_quiet rfl (step_C tab_ok (fun K hk => hk)) ?_
  refine reg_nil ?_
  refine seq_n ?_
  refine wc_ret ?_
  exact ⟨trivial, [], .of rfl rfl rfl rfl rfl ⟨⟨_, rfl, AVLe.of_eq rfl⟩, rfl, trivial⟩ trivial⟩
end Go.Proofs.Ytjpjchohpjbknaa

/- words: get, Get32, Get64; nonces: Get. -/
namespace Go.Proofs.Ytjpjchohpjbknaa
open Go.Eng
set_option maxHeartbeats 2000000
set_option maxRecDepth 20000
attribute [local irreducible] WC RegS RegD SeqQ BlkQ ScoQ RegK CutK Sat SatN FnIs LoopQ StepIs OpIs
/-- The number that bytes stand for. -/
def getN (l : List UInt8) : Nat := l.foldl (fun a b => a * 256 + b.toNat) 0
theorem getN_snoc (l : List UInt8) (b : UInt8) : getN (l ++ [b]) = getN l * 256 + b.toNat := by simp [getN]
theorem getN_lt_rev : ∀ (l : List UInt8), getN l.reverse < 256 ^ l.length
  | [] => by simp [getN]
  | b :: l => by
    have := getN_lt_rev l
    have hb := b.toNat_lt
    rw [List.reverse_cons, getN_snoc, List.length_cons, Nat.pow_succ]
    have : (getN l.reverse + 1) * 256 ≤ 256 ^ l.length * 256 := Nat.mul_le_mul_right _ this
    omega
theorem getN_lt (l : List UInt8) : getN l < 256 ^ l.length := by
  have := getN_lt_rev l.reverse
  simpa using this
theorem getN_take {l : List UInt8} {j : Nat} {b : UInt8} (h : l[j]? = some b) : getN (l.take (j + 1)) = getN (l.take j) * 256 + b.toNat := by
  rw [List.take_add_one, h]
  exact getN_snoc _ _
theorem or_low (a : Nat) {b : Nat} (hb : b < 256) : a * 256 ||| b = a * 256 + b := by
  have := Nat.shiftLeft_add_eq_or_of_lt (i := 8) (b := b) hb a
  rw [Nat.shiftLeft_eq] at this
  exact this.symm
theorem pow_le8 {n : Nat} (h : n ≤ 7) : (256 : Nat) ^ n ≤ 72057594037927936 := by
  have := Nat.pow_le_pow_right (n := 256) (by decide) h
  exact this
theorem get_is (l : List UInt8) (m : Nat) (hm : l.length = m) (h8 : m ≤ 8) : FnIs Try.prog 105 [.d (encB l), .int .i64 m] [] (.tup (.acons (.int .u64 (getN l)) (.acons (.d (i6 0)) .anil))) [] := by
  have hd1 : decide (((byI l).length : Int) < m) = false := decide_eq_false (by rw [byI_len]; omega)
  have hd2 : decide ((m : Int) < ((byI l).length : Int)) = false := decide_eq_false (by rw [byI_len]; omega)
  refine fnIs_of tab_ok Try.func105 rfl rfl rfl ?_
  refine wc_seq ?_
  refine wc_region ?_
  refine reg_quiet rfl (step_C tab_ok (fun K hk => hk)) ?_
  refine reg_quiet rfl (step_C tab_ok (fun K hk => hk)) ?_
  refine reg_nil ?_
  refine seq_n ?_
  refine wc_seq ?_
  refine wc_block ?_
  refine wc_seq ?_
  refine wc_region ?_
  refine reg_quiet rfl (step_C tab_ok (fun K hk => hk)) ?_
  refine reg_quiet rfl (len_arr tab_ok rfl rfl) ?_
  refine reg_quiet rfl (step_C tab_ok (fun K hk => hk)) ?_
  refine reg_quiet rfl (step_C tab_ok (fun K hk => hk)) ?_
  refine reg_quiet rfl (step_C tab_ok (fun K hk => hk)) ?_
  refine reg_nil ?_
  refine seq_n ?_
  refine wc_false rfl (by assumption) ?_
  refine wc_seq ?_
  refine wc_region ?_
  refine reg_quiet rfl (step_C tab_ok (fun K hk => hk)) ?_
  refine reg_quiet rfl (len_arr tab_ok rfl rfl) ?_
  refine reg_quiet rfl (step_C tab_ok (fun K hk => hk)) ?_
  refine reg_quiet rfl (step_C tab_ok (fun K hk => hk)) ?_
  refine reg_quiet rfl (step_C tab_ok (fun K hk => hk)) ?_
  refine reg_nil ?_
  refine seq_n ?_
  refine wc_false rfl (by assumption) ?_
  refine wc_skip ?_
  refine blk_n ?_
  refine seq_n ?_
  refine wc_seq ?_
  refine wc_region ?_
  refine reg_quiet rfl (step_C tab_ok (fun K hk => hk)) ?_
  refine reg_nil ?_
  refine seq_n ?_
  refine wc_seq ?_
  refine wc_seq ?_
  refine wc_region ?_
  refine reg_quiet rfl (step_C tab_ok (fun K hk => hk)) ?_
  refine reg_quiet rfl (len_arr tab_ok rfl rfl) ?_
  refine reg_quiet rfl (step_C tab_ok (fun K hk => hk)) ?_
  refine reg_nil ?_
  refine seq_n ?_
  refine wc_block ?_
  refine wc_inv (fun j : Nat => ⟨[(21, .int .i64 j), (20, .int .i64 (byI l).length), (19, .d (encB l)), (6, .int .u64 (getN (l.take j)))], [], 72, Try.f105.ntmps, 64⟩) (fun j => j ≤ m) (fun j => m - j) 0 [] (Nat.zero_le _)
    (.of rfl rfl rfl rfl rfl ⟨⟨_, rfl, .refl _⟩, rfl, ⟨_, rfl, .refl _⟩, rfl, ⟨_, rfl, .refl _⟩, rfl, ⟨_, rfl, .refl _⟩, rfl, trivial⟩ trivial) ?_
  intro j hj
  refine wc_of ?_
  refine wc_seq ?_
  refine wc_region ?_
  refine reg_quiet rfl (step_C tab_ok (fun K hk => hk)) ?_
  refine reg_nil ?_
  refine seq_n ?_
  refine wc_seq ?_
  refine wc_cond rfl (fun h3 => ?_) (fun h3 => ?_)
  · have hlt : j < m := by have := of_decide_eq_true h3; rw [byI_len] at this; omega
    obtain ⟨b, hb⟩ : ∃ b, l[j]? = some b := ⟨_, List.getElem?_eq_getElem (by omega)⟩
    have hb' : (byI l)[((j : Int)).toNat]? = some (b.toNat : Int) := by rw [Int.toNat_natCast]; exact byI_get hb
    have hb8 : b.toNat < 256 := b.toNat_lt
    have hg : getN (l.take j) < 72057594037927936 := by
      have h1 := getN_lt (l.take j)
      have h2 : (l.take j).length = j := by rw [List.length_take]; omega
      rw [h2] at h1
      exact Nat.lt_of_lt_of_le h1 (pow_le8 (by omega))
    have w26 : IntKind.u64.wrap ((getN (l.take j) * 2 ^ 8 : Nat) : Int) = ((getN (l.take j) * 256 : Nat) : Int) := wrap_u64 (by omega) (by omega)
    have w28 : IntKind.u64.wrap (b.toNat : Int) = ((b.toNat : Nat) : Int) := wrap_u64 (by omega) (by omega)
    have w29 : getN (l.take j) * 256 < 2 ^ IntKind.u64.bits := by show _ < 18446744073709551616; omega
    have w29b : b.toNat < 2 ^ IntKind.u64.bits := by show _ < 18446744073709551616; omega
    have w29c : getN (l.take j) * 256 ||| b.toNat = getN (l.take (j + 1)) := by rw [or_low _ hb8, getN_take hb]
    refine wc_skip ?_
    refine seq_n ?_
    refine wc_seq ?_
    refine wc_block ?_
    refine wc_seq ?_
    refine wc_region ?_
    refine reg_quiet rfl (index_arr tab_ok rfl rfl rfl rfl rfl (by omega) (by assumption)) ?_
    refine reg_quiet rfl (load_i tab_ok rfl rfl) ?_
    refine reg_quiet rfl (step_C tab_ok (fun K hk => hk)) ?_
    refine reg_nil ?_
    refine seq_n ?_
    refine wc_region ?_
    refine reg_quiet rfl (step_C tab_ok (fun K hk => hk)) ?_
    refine reg_quiet rfl (shl_nat (a := getN (l.take j)) (s := 8) (m := ((getN (l.take j) * 256 : Nat) : Int)) rfl rfl (by decide) w26) ?_
    refine reg_quiet rfl (step_C tab_ok (fun K hk => hk)) ?_
    refine reg_quiet rfl (conv_int (m := ((b.toNat : Nat) : Int)) tab_ok rfl rfl rfl w28) ?_
    refine reg_quiet rfl (or_nat (a := getN (l.take j) * 256) (b := b.toNat) (m := getN (l.take (j + 1))) rfl rfl rfl w29 w29b w29c) ?_
    refine reg_quiet rfl (step_C tab_ok (fun K hk => hk)) ?_
    refine reg_nil ?_
    refine blk_n ?_
    refine seq_n ?_
    refine wc_region ?_
    refine reg_quiet rfl (add_int tab_ok rfl rfl (wrap_i64 (by omega) (by omega))) ?_
    refine reg_quiet rfl (step_C tab_ok (fun K hk => hk)) ?_
    refine reg_nil ?_
    exact loop_n (j + 1) [] hlt (by omega) (.of rfl rfl rfl rfl rfl ⟨⟨_, rfl, .refl _⟩, rfl, ⟨_, rfl, .refl _⟩, rfl, ⟨_, rfl, .refl _⟩, rfl, ⟨_, rfl, .refl _⟩, rfl, trivial⟩ trivial)
  · have he : l.length ≤ j := by have := of_decide_eq_false h3; rw [byI_len] at this; omega
    refine wc_exit ?_
    refine seq_x ?_
    refine loop_x ?_
    refine blk_x ?_
    refine seq_n ?_
    refine wc_seq ?_
    refine wc_region ?_
    refine reg_quiet rfl (step_C tab_ok (fun K hk => hk)) ?_
    refine reg_quiet rfl (step_C tab_ok (fun K hk => hk)) ?_
    refine reg_quiet rfl (step_C tab_ok (fun K hk => hk)) ?_
    refine reg_nil ?_
    refine seq_n ?_
    refine wc_ret ?_
    exact ⟨trivial, [], .of rfl rfl rfl rfl rfl ⟨⟨_, rfl, AVLe.of_eq (by rw [List.take_of_length_le he]; rfl)⟩, rfl, trivial⟩ trivial⟩
theorem get32_is (l : List UInt8) (hm : l.length = 4) : FnIs Try.prog 90 [.d (encB l)] [] (.tup (.acons (.int .u32 (getN l)) (.acons (.d (i6 0)) .anil))) [] := by
  have hG := get_is l 4 hm (by decide)
  have hlt := getN_lt l
  rw [hm] at hlt
  have w12 : IntKind.u32.wrap (getN l : Int) = ((getN l : Nat) : Int) := wrap_nat rfl (by show _ < 4294967296; exact hlt)
  refine fnIs_of tab_ok Try.func90 rfl rfl rfl ?_
  refine wc_seq ?_
  refine wc_region ?_
  refine reg_quiet rfl (step_C tab_ok (fun K hk => hk)) ?_
  refine reg_quiet rfl (step_C tab_ok (fun K hk => hk)) ?_
  refine reg_nil ?_
  refine seq_n ?_
  refine wc_seq ?_
  refine wc_region ?_
  refine reg_quiet rfl (step_C tab_ok (fun K hk => hk)) ?_
  refine reg_quiet rfl (call_r hG rfl rfl (arg_e (arg_e arg_nil)) (.inl rfl) (fun _ => rfl)) ?_
  refine reg_quiet rfl (step_C tab_ok (fun K hk => hk)) ?_
  refine reg_quiet rfl (step_C tab_ok (fun K hk => hk)) ?_
  refine reg_quiet rfl (step_C tab_ok (fun K hk => hk)) ?_
  refine reg_quiet rfl (step_C tab_ok (fun K hk => hk)) ?_
  refine reg_quiet rfl (step_C tab_ok (fun K hk => hk)) ?_
  refine reg_nil ?_
  refine seq_n ?_
  refine wc_seq ?_
  refine wc_region ?_
  refine reg_quiet rfl (step_C tab_ok (fun K hk => hk)) ?_
  refine reg_quiet rfl (conv_int (m := ((getN l : Nat) : Int)) tab_ok rfl rfl rfl w12) ?_
  refine reg_quiet rfl (step_C tab_ok (fun K hk => hk)) ?_
  refine reg_quiet rfl (step_C tab_ok (fun K hk => hk)) ?_
  refine reg_quiet rfl (step_C tab_ok (fun K hk => hk)) ?_
  refine reg_nil ?_
  refine seq_n ?_
  refine wc_ret ?_
  exact ⟨trivial, [], .of rfl rfl rfl rfl rfl ⟨⟨_, rfl, AVLe.of_eq rfl⟩, rfl, trivial⟩ trivial⟩
theorem get64_is (l : List UInt8) (hm : l.length = 8) : FnIs Try.prog 104 [.d (encB l)] [] (.tup (.acons (.int .u64 (getN l)) (.acons (.d (i6 0)) .anil))) [] := by
  have hG := get_is l 8 hm (by decide)
  refine fnIs_of tab_ok Try.func104 rfl rfl rfl ?_
  refine wc_seq ?_
  refine wc_region ?_
  refine reg_quiet rfl (step_C tab_ok (fun K hk => hk)) ?_
  refine reg_quiet rfl (step_C tab_ok (fun K hk => hk)) ?_
  refine reg_nil ?_
  refine seq_n ?_
  refine wc_seq ?_
  refine wc_region ?_
  refine reg_quiet rfl (step_C tab_ok (fun K hk => hk)) ?_
  refine reg_quiet rfl (call_r hG rfl rfl (arg_e (arg_e arg_nil)) (.inl rfl) (fun _ => rfl)) ?_
  refine reg_quiet rfl (step_C tab_ok (fun K hk => hk)) ?_
  refine reg_quiet rfl (step_C tab_ok (fun K hk => hk)) ?_
  refine reg_quiet rfl (step_C tab_ok (fun K hk => hk)) ?_
  refine reg_quiet rfl (step_C tab_ok (fun K hk => hk)) ?_
  refine reg_nil ?_
  refine seq_n ?_
  refine wc_ret ?_
  exact ⟨trivial, [], .of rfl rfl rfl rfl rfl ⟨⟨_, rfl, AVLe.of_eq rfl⟩, rfl, trivial⟩ trivial⟩
theorem byI_take (l : List UInt8) (n : Nat) : (byI l).take n = byI (l.take n) := by simp [byI]
theorem byI_drop (l : List UInt8) (n : Nat) : (byI l).drop n = byI (l.drop n) := by simp [byI]
theorem nonce_get (l : List UInt8) (hm : l.length = 12) : FnIs Try.prog 89 [.d (encB l)] [] (.tup (.acons (.d (encLN ⟨getN (l.take 4), getN (l.drop 4)⟩)) (.acons (.d (i6 0)) .anil))) [] := by
  have hG1 := get32_is (l.take 4) (by simp [hm])
  have hG2 := get64_is (l.drop 4) (by simp [hm])
  have h4 : 4 ≤ (byI l).length := by rw [byI_len]; omega
  have hd1 : decide (((byI l).length : Int) < 12) = false := decide_eq_false (by rw [byI_len]; omega)
  have hd2 : decide ((12 : Int) < ((byI l).length : Int)) = false := decide_eq_false (by rw [byI_len]; omega)
  refine fnIs_of tab_ok Try.func89 rfl rfl rfl ?_
  refine wc_seq ?_
  refine wc_region ?_
  refine reg_new (step_C tab_ok (fun K hk => hk)) rfl ?_
  refine reg_quiet rfl (step_C tab_ok (fun K hk => hk)) ?_
  refine reg_nil ?_
  refine seq_n ?_
  refine wc_seq ?_
  refine wc_block ?_
  refine wc_seq ?_
  refine wc_region ?_
  refine reg_quiet rfl (step_C tab_ok (fun K hk => hk)) ?_
  refine reg_quiet rfl (len_arr tab_ok rfl rfl) ?_
  refine reg_quiet rfl (step_C tab_ok (fun K hk => hk)) ?_
  refine reg_quiet rfl (step_C tab_ok (fun K hk => hk)) ?_
  refine reg_nil ?_
  refine seq_n ?_
  refine wc_false rfl (by assumption) ?_
  refine wc_seq ?_
  refine wc_region ?_
  refine reg_quiet rfl (step_C tab_ok (fun K hk => hk)) ?_
  refine reg_quiet rfl (len_arr tab_ok rfl rfl) ?_
  refine reg_quiet rfl (step_C tab_ok (fun K hk => hk)) ?_
  refine reg_quiet rfl (step_C tab_ok (fun K hk => hk)) ?_
  refine reg_nil ?_
  refine seq_n ?_
  refine wc_false rfl (by assumption) ?_
  refine wc_skip ?_
  refine blk_n ?_
  refine seq_n ?_
  refine wc_seq ?_
  refine wc_region ?_
  refine reg_quiet rfl (step_C tab_ok (fun K hk => hk)) ?_
  refine reg_quiet rfl (arr_to (m := 4) tab_ok rfl rfl rfl rfl rfl h4 (byI_take l 4)) ?_
  refine reg_quiet rfl (call_r hG1 rfl rfl (arg_e arg_nil) (.inl rfl) (fun _ => rfl)) ?_
  refine reg_quiet rfl (step_C tab_ok (fun K hk => hk)) ?_
  refine reg_quiet rfl (step_C tab_ok (fun K hk => hk)) ?_
  refine reg_quiet rfl (step_C tab_ok (fun K hk => hk)) ?_
  refine reg_quiet rfl (step_C tab_ok (fun K hk => hk)) ?_
  refine reg_quiet rfl (step_C tab_ok (fun K hk => hk)) ?_
  refine reg_nil ?_
  refine seq_n ?_
  refine wc_seq ?_
  refine wc_region ?_
  refine reg_quiet rfl (step_C tab_ok (fun K hk => hk)) ?_
  refine reg_quiet rfl (arr_from (m := 4) tab_ok rfl rfl rfl rfl rfl h4 (byI_drop l 4)) ?_
  refine reg_quiet rfl (call_r hG2 rfl rfl (arg_e arg_nil) (.inl rfl) (fun _ => rfl)) ?_
  refine reg_quiet rfl (step_C tab_ok (fun K hk => hk)) ?_
  refine reg_quiet rfl (step_C tab_ok (fun K hk => hk)) ?_
  refine reg_quiet rfl (step_C tab_ok (fun K hk => hk)) ?_
  refine reg_quiet rfl (step_C tab_ok (fun K hk => hk)) ?_
  refine reg_quiet rfl (step_C tab_ok (fun K hk => hk)) ?_
  refine reg_nil ?_
  refine seq_n ?_
  refine wc_seq ?_
  refine wc_region ?_
  refine reg_quiet rfl (step_C tab_ok (fun K hk => hk)) ?_
  refine reg_quiet rfl (step_C tab_ok (fun K hk => hk)) ?_
  refine reg_quiet rfl (build_struct tab_ok rfl rfl rfl rfl) ?_
  refine reg_store (store_row tab_ok rfl rfl rfl ⟨_, ⟨rfl, rfl, rfl⟩, rfl⟩ rfl) ?_
  refine reg_quiet rfl (step_C tab_ok (fun K hk => hk)) ?_
  refine reg_nil ?_
  refine seq_n ?_
  refine wc_ret ?_
  exact ⟨trivial, _, rfl, [], .of rfl rfl rfl rfl rfl ⟨⟨_, rfl, AVLe.of_eq rfl⟩, rfl, trivial⟩ trivial⟩
end Go.Proofs.Ytjpjchohpjbknaa

/- Ledgers: parse. -/
namespace Go.Proofs.Ytjpjchohpjbknaa
open Go.Eng
set_option maxHeartbeats 2000000
set_option maxRecDepth 20000
attribute [local irreducible] WC RegS RegD SeqQ BlkQ ScoQ RegK CutK Sat SatN FnIs LoopQ StepIs OpIs
def zeroUse : LUse := ⟨List.replicate 16 0, ⟨⟨0, 0⟩, 0, 0⟩⟩
/-- What digit stands at a place. -/
def nib (s : List UInt8) (k : Nat) : Nat := (Lib.indexByte hexD (s.getD k 0)).toNat
theorem ix_lt : ∀ (l : List UInt8) (c : UInt8), Lib.indexByte l c < l.length
  | [], _ => by simp [Lib.indexByte]
  | b :: l, c => by
    have := ix_lt l c
    unfold Lib.indexByte
    simp only [List.length_cons]
    split
    · omega
    · split <;> omega
theorem nib_lt (s : List UInt8) (k : Nat) : nib s k < 16 := by
  have h1 := ix_lt hexD (s.getD k 0)
  have h2 : hexD.length = 16 := rfl
  unfold nib
  omega
theorem nib_of {s : List UInt8} {k : Nat} {c : UInt8} (hc : s[k]? = some c) (h : 0 ≤ Lib.indexByte hexD c) : Lib.indexByte hexD c = ((nib s k : Nat) : Int) := by
  have : s.getD k 0 = c := by rw [List.getD_eq_getElem?_getD, hc]; rfl
  rw [nib, this, Int.toNat_of_nonneg h]
/-- The bytes as they stand after i digits. -/
def xb (s : List UInt8) (i j : Nat) : Nat := if 2 * j + 1 < i then 16 * nib s (2 * j) + nib s (2 * j + 1) else if 2 * j < i then nib s (2 * j) else 0
def rowX (s : List UInt8) (i : Nat) : List Int := (List.range 36).map fun j => (xb s i j : Int)
theorem rowX_get (s : List UInt8) {i j : Nat} (h : j < 36) : (rowX s i)[j]? = some (xb s i j : Int) := by simp [rowX, h]
theorem xb_cur {s : List UInt8} {i : Nat} : xb s i (i / 2) < 16 := by
  have := nib_lt s (2 * (i / 2))
  unfold xb
  split
  · omega
  · split <;> omega
theorem xb_go (s : List UInt8) (i : Nat) : xb s i (i / 2) * 16 + nib s i = xb s (i + 1) (i / 2) := by
  rcases Nat.mod_two_eq_zero_or_one i with h | h
  · have e : 2 * (i / 2) = i := by omega
    simp only [xb, e]
    rw [if_neg (by omega), if_neg (by omega), if_neg (by omega), if_pos (by omega)]
    omega
  · have e : 2 * (i / 2) + 1 = i := by omega
    have e2 : i < i + 1 := by omega
    simp only [xb, e]
    rw [if_neg (by omega), if_pos (by omega), if_pos e2]
    omega
theorem xb_old {s : List UInt8} {i j : Nat} (h : j ≠ i / 2) : xb s i j = xb s (i + 1) j := by
  unfold xb
  by_cases h1 : 2 * j + 1 < i
  · rw [if_pos h1, if_pos (by omega)]
  · rw [if_neg h1, if_neg (by omega), if_neg (by omega), if_neg (by omega)]
theorem rowX_set (s : List UInt8) (i : Nat) : (rowX s i).set (i / 2) ((xb s (i + 1) (i / 2) : Nat) : Int) = rowX s (i + 1) := by
  apply List.ext_getElem?
  intro j
  rw [List.getElem?_set]
  by_cases hj : j < 36
  · by_cases e : i / 2 = j
    · rw [if_pos e, rowX_get s hj, if_pos (by simp [rowX]; omega), e]
    · rw [if_neg e, rowX_get s hj, rowX_get s hj, xb_old (Ne.symm e)]
  · have h1 : (rowX s i)[j]? = none := List.getElem?_eq_none (by simp [rowX]; omega)
    have h2 : (rowX s (i + 1))[j]? = none := List.getElem?_eq_none (by simp [rowX]; omega)
    rw [h1, h2]
    split
    · rw [if_neg (by simp [rowX]; omega)]
    · rfl
/-- The bytes that the digits stand for. -/
def unhex (s : List UInt8) : List UInt8 := (List.range 36).map fun j => (16 * nib s (2 * j) + nib s (2 * j + 1)).toUInt8
theorem unhex_len (s : List UInt8) : (unhex s).length = 36 := by simp [unhex]
theorem rowX_end (s : List UInt8) : rowX s 72 = byI (unhex s) := by
  simp only [rowX, byI, unhex, List.map_map]
  apply List.map_congr_left
  intro j hj
  have hj := List.mem_range.1 hj
  have h1 := nib_lt s (2 * j)
  have h2 := nib_lt s (2 * j + 1)
  simp only [Function.comp, xb, if_pos (show 2 * j + 1 < 72 by omega), Nat.toUInt8_eq, UInt8.toNat_ofNat']
  rw [Nat.mod_eq_of_lt (by omega)]
theorem rowX_zero (s : List UInt8) : rowX s 0 = List.replicate 36 0 := by
  simp only [rowX]
  rw [List.eq_replicate_iff]
  refine ⟨by simp, fun x hx => ?_⟩
  obtain ⟨j, _, rfl⟩ := List.mem_map.1 hx
  simp [xb]
theorem or_low4 (a : Nat) {b : Nat} (hb : b < 16) : a * 16 ||| b = a * 16 + b := by
  have := Nat.shiftLeft_add_eq_or_of_lt (i := 4) (b := b) hb a
  rw [Nat.shiftLeft_eq] at this
  exact this.symm
/-- The use that 36 bytes stand for. -/
def useP (b : List UInt8) : LUse := ⟨byI (b.take 16), ⟨⟨getN (((b.drop 16).take (28 - 16)).take 4), getN (((b.drop 16).take (28 - 16)).drop 4)⟩, getN ((b.drop 28).take (32 - 28)), getN (b.drop 32)⟩⟩
/-- All its bytes are digits. -/
def okHex (s : List UInt8) : Bool := s.all fun c => decide (0 ≤ Lib.indexByte hexD c)
def parseU (s : List UInt8) : LUse := bif okHex s then useP (unhex s) else zeroUse
def parseE (s : List UInt8) : Int := bif okHex s then 0 else 5
theorem parseU_ok {s : List UInt8} (h : okHex s = true) : parseU s = useP (unhex s) := by rw [parseU, h]; rfl
theorem parseU_no {s : List UInt8} (h : okHex s = false) : parseU s = zeroUse := by rw [parseU, h]; rfl
theorem parseE_ok {s : List UInt8} (h : okHex s = true) : parseE s = 0 := by rw [parseE, h]; rfl
theorem parseE_no {s : List UInt8} (h : okHex s = false) : parseE s = 5 := by rw [parseE, h]; rfl
theorem parse_len (s : List UInt8) (h : s.length ≠ 72) : FnIs Try.prog 67 [.d (strD s)] [] (.tup (.acons (.d (encUse zeroUse)) (.acons (.d (i6 5)) .anil))) [] := by
  have hd : (!decide ((s.length : Int) = 72)) = true := by rw [decide_eq_false (by omega)]; rfl
  refine fnIs_of tab_ok Try.func67 rfl rfl rfl ?_
  refine wc_seq ?_
  refine wc_region ?_
  refine reg_new (step_C tab_ok (fun K hk => hk)) rfl ?_
  refine reg_quiet rfl (step_C tab_ok (fun K hk => hk)) ?_
  refine reg_nil ?_
  refine seq_n ?_
  refine wc_seq ?_
  refine wc_seq ?_
  refine wc_region ?_
  refine reg_quiet rfl (step_C tab_ok (fun K hk => hk)) ?_
  refine reg_quiet rfl (len_s tab_ok rfl rfl) ?_
  refine reg_quiet rfl (step_C tab_ok (fun K hk => hk)) ?_
  refine reg_nil ?_
  refine seq_n ?_
  refine wc_true rfl (by assumption) ?_
  refine wc_seq ?_
  refine wc_region ?_
  refine reg_quiet rfl (load_box tab_ok rfl rfl rfl rfl) ?_
  refine reg_store (store_row tab_ok rfl rfl rfl ⟨_, ⟨rfl, rfl, rfl⟩, rfl⟩ rfl) ?_
  refine reg_quiet rfl (step_C tab_ok (fun K hk => hk)) ?_
  refine reg_nil ?_
  refine seq_n ?_
  refine wc_ret ?_
  refine seq_r ?_
  exact ⟨trivial, _, rfl, [], .of rfl rfl rfl rfl rfl ⟨⟨_, rfl, AVLe.of_eq rfl⟩, rfl, trivial⟩ trivial⟩
theorem parse_is (s : List UInt8) (h : s.length = 72) : FnIs Try.prog 67 [.d (strD s)] [] (.tup (.acons (.d (encUse (parseU s))) (.acons (.d (i6 (parseE s))) .anil))) [] := by
  have hd : (!decide ((s.length : Int) = 72)) = false := by rw [decide_eq_true (by omega)]; rfl
  have hul := unhex_len s
  have hbl : (byI (unhex s)).length = 36 := by rw [byI_len, hul]
  have a37 : 16 ≤ (byI (unhex s)).length := by omega
  have a43 : 28 ≤ (byI (unhex s)).length := by omega
  have a51 : 32 ≤ (byI (unhex s)).length := by omega
  have a38 : (byI ((unhex s).take 16)).length = 16 := by rw [byI_len, List.length_take]; omega
  have hG1 := nonce_get (((unhex s).drop 16).take (28 - 16)) (by rw [List.length_take, List.length_drop]; omega)
  have hG2 := get32_is (((unhex s).drop 28).take (32 - 28)) (by rw [List.length_take, List.length_drop]; omega)
  have hG3 := get32_is ((unhex s).drop 32) (by rw [List.length_drop]; omega)
  refine fnIs_of tab_ok Try.func67 rfl rfl rfl ?_
  refine wc_seq ?_
  refine wc_region ?_
  refine reg_new (step_C tab_ok (fun K hk => hk)) rfl ?_
  refine reg_quiet rfl (step_C tab_ok (fun K hk => hk)) ?_
  refine reg_nil ?_
  refine seq_n ?_
  refine wc_seq ?_
  refine wc_seq ?_
  refine wc_region ?_
  refine reg_quiet rfl (step_C tab_ok (fun K hk => hk)) ?_
  refine reg_quiet rfl (len_s tab_ok rfl rfl) ?_
  refine reg_quiet rfl (step_C tab_ok (fun K hk => hk)) ?_
  refine reg_nil ?_
  refine seq_n ?_
  refine wc_false rfl (by assumption) ?_
  refine wc_skip ?_
  refine seq_n ?_
  refine wc_seq ?_
  refine wc_region ?_
  refine reg_new (make_full (enc := encU8) (s := 1) (N := 36) tab_ok 0 rfl rfl rfl rfl rfl rfl rfl (by omega) rfl) rfl ?_
  refine reg_quiet rfl (step_C tab_ok (fun K hk => hk)) ?_
  refine reg_nil ?_
  refine seq_n ?_
  refine wc_seq ?_
  refine wc_seq ?_
  refine wc_region ?_
  refine reg_quiet rfl (step_C tab_ok (fun K hk => hk)) ?_
  refine reg_nil ?_
  refine seq_n ?_
  refine wc_block ?_
  refine wc_inv (fun i : Nat => ⟨[(12, .int .i64 i), (4, .own 65 0 36 1 none), (2, .ptr 64 []), (0, .d (strD s))], [(64, some (.box 84 (.d (encUse zeroUse)))), (65, some (.ds 5 1 true encU8 (rowX s i)))], 72, Try.f67.ntmps, 64⟩) (fun i => i ≤ 72 ∧ ∀ j c, j < i → s[j]? = some c → 0 ≤ Lib.indexByte hexD c) (fun i => 72 - i) 0 [(65, some 104)] ⟨Nat.zero_le _, fun _ _ h => absurd h (Nat.not_lt_zero _)⟩
    (.of rfl rfl rfl rfl rfl ⟨⟨_, rfl, .refl _⟩, rfl, ⟨_, rfl, .refl _⟩, rfl, ⟨_, rfl, .refl _⟩, rfl, ⟨_, rfl, .refl _⟩, rfl, trivial⟩ ⟨⟨rfl, rfl, _, rfl, .refl _⟩, ⟨rfl, rfl, _, rfl, RowLe.of_eq (by rw [rowX_zero] <;> rfl)⟩, trivial⟩) ?_
  intro i hi
  obtain ⟨hi, hall⟩ := hi
  refine wc_of ?_
  refine wc_seq ?_
  refine wc_region ?_
  refine reg_quiet rfl (step_C tab_ok (fun K hk => hk)) ?_
  refine reg_nil ?_
  refine seq_n ?_
  refine wc_seq ?_
  refine wc_cond rfl (fun h3 => ?_) (fun h3 => ?_)
  · have hlt : i < 72 := by have := of_decide_eq_true h3; omega
    obtain ⟨c, hc⟩ : ∃ c, s[i]? = some c := ⟨_, List.getElem?_eq_getElem (by omega)⟩
    have hix := index_byte hexD c
    rcases Int.lt_or_le (Lib.indexByte hexD c) 0 with hv | hv
    · have hv2 : decide (Lib.indexByte hexD c < 0) = true := decide_eq_true hv
      have hk : okHex s = false := by
        rw [okHex, List.all_eq_false]
        exact ⟨c, List.mem_of_getElem? hc, by simpa using hv⟩
      refine wc_skip ?_
      refine seq_n ?_
      refine wc_seq ?_
      refine wc_block ?_
      refine wc_seq ?_
      refine wc_region ?_
      refine reg_quiet rfl (step_C tab_ok (fun K hk => hk)) ?_
      refine reg_quiet rfl (step_C tab_ok (fun K hk => hk)) ?_
      refine reg_nil ?_
      refine seq_n ?_
      refine wc_seq ?_
      refine wc_region ?_
      refine reg_quiet rfl (step_C tab_ok (fun K hk => hk)) ?_
      refine reg_quiet rfl (step_C tab_ok (fun K hk => hk)) ?_
      refine reg_quiet rfl (index_s (l := s) (m := i) tab_ok rfl rfl rfl hc) ?_
      refine reg_quiet rfl (call_r hix rfl rfl (arg_e (arg_e arg_nil)) (.inl rfl) (fun _ => rfl)) ?_
      refine reg_quiet rfl (step_C tab_ok (fun K hk => hk)) ?_
      refine reg_nil ?_
      refine seq_n ?_
      refine wc_seq ?_
      refine wc_seq ?_
      refine wc_region ?_
      refine reg_quiet rfl (step_C tab_ok (fun K hk => hk)) ?_
      refine reg_quiet rfl (step_C tab_ok (fun K hk => hk)) ?_
      refine reg_nil ?_
      refine seq_n ?_
      refine wc_true rfl (by assumption) ?_
      refine wc_seq ?_
      refine wc_region ?_
      refine reg_quiet rfl (load_box tab_ok rfl rfl rfl rfl) ?_
      refine reg_store (store_row tab_ok rfl rfl rfl ⟨_, ⟨rfl, rfl, rfl⟩, rfl⟩ rfl) ?_
      refine reg_quiet rfl (step_C tab_ok (fun K hk => hk)) ?_
      refine reg_nil ?_
      refine seq_n ?_
      refine wc_ret ?_
      refine seq_r ?_
      refine blk_r ?_
      refine seq_r ?_
      refine loop_r ?_
      refine blk_r ?_
      refine seq_r ?_
      exact ⟨trivial, _, rfl, [], .of rfl rfl rfl rfl rfl ⟨⟨_, rfl, AVLe.of_eq (by rw [parseU_no hk, parseE_no hk]; rfl)⟩, rfl, trivial⟩ trivial⟩
    · rw [nib_of hc hv] at hix
      have hv2 : decide (((nib s i : Nat) : Int) < 0) = false := decide_eq_false (by omega)
      have hn := nib_lt s i
      have hx := xb_cur (s := s) (i := i)
      have w24 : IntKind.i64.wrap ((i : Int).tdiv 2) = ((i / 2 : Nat) : Int) := by rw [show ((i : Int).tdiv 2) = ((i / 2 : Nat) : Int) from (Int.ofNat_tdiv i 2).symm, wrap_i64 (by omega) (by omega)]
      have w30 : IntKind.u8.wrap ((xb s i (i / 2) * 2 ^ 4 : Nat) : Int) = ((xb s i (i / 2) * 16 : Nat) : Int) := wrap_nat rfl (by show _ < 256; omega)
      have w32 : IntKind.u8.wrap ((nib s i : Nat) : Int) = ((nib s i : Nat) : Int) := wrap_nat rfl (by show _ < 256; omega)
      have w33a : xb s i (i / 2) * 16 < 2 ^ IntKind.u8.bits := by show _ < 256; omega
      have w33b : nib s i < 2 ^ IntKind.u8.bits := by show _ < 256; omega
      have w33c : xb s i (i / 2) * 16 ||| nib s i = xb s (i + 1) (i / 2) := by rw [or_low4 _ hn, xb_go]
      have hg : (rowX s i)[(((i / 2 : Nat) : Int)).toNat]? = some (xb s i (i / 2) : Int) := by rw [Int.toNat_natCast]; exact rowX_get s (by omega)
      have hset := rowX_set s i
      refine wc_skip ?_
      refine seq_n ?_
      refine wc_seq ?_
      refine wc_block ?_
      refine wc_seq ?_
      refine wc_region ?_
      refine reg_quiet rfl (step_C tab_ok (fun K hk => hk)) ?_
      refine reg_quiet rfl (step_C tab_ok (fun K hk => hk)) ?_
      refine reg_nil ?_
      refine seq_n ?_
      refine wc_seq ?_
      refine wc_region ?_
      refine reg_quiet rfl (step_C tab_ok (fun K hk => hk)) ?_
      refine reg_quiet rfl (step_C tab_ok (fun K hk => hk)) ?_
      refine reg_quiet rfl (index_s (l := s) (m := i) tab_ok rfl rfl rfl hc) ?_
      refine reg_quiet rfl (call_r hix rfl rfl (arg_e (arg_e arg_nil)) (.inl rfl) (fun _ => rfl)) ?_
      refine reg_quiet rfl (step_C tab_ok (fun K hk => hk)) ?_
      refine reg_nil ?_
      refine seq_n ?_
      refine wc_seq ?_
      refine wc_seq ?_
      refine wc_region ?_
      refine reg_quiet rfl (step_C tab_ok (fun K hk => hk)) ?_
      refine reg_quiet rfl (step_C tab_ok (fun K hk => hk)) ?_
      refine reg_nil ?_
      refine seq_n ?_
      refine wc_false rfl rfl ?_
      refine wc_skip ?_
      refine seq_n ?_
      refine wc_region ?_
      refine reg_quiet rfl (step_C tab_ok (fun K hk => hk)) ?_
      refine reg_quiet rfl (step_C tab_ok (fun K hk => hk)) ?_
      refine reg_quiet rfl (quo_int (m := ((i / 2 : Nat) : Int)) tab_ok rfl rfl (by decide) w24) ?_
      refine reg_quiet rfl (step_C tab_ok (fun K hk => hk)) ?_
      refine reg_quiet rfl (step_C tab_ok (fun K hk => hk)) ?_
      refine reg_quiet rfl (quo_int (m := ((i / 2 : Nat) : Int)) tab_ok rfl rfl (by decide) w24) ?_
      refine reg_quiet rfl (index_own tab_ok rfl rfl rfl rfl rfl (by omega) (by omega)) ?_
      refine reg_quiet rfl (load_row tab_ok rfl rfl ⟨rfl, _, by assumption, _, rfl, rfl⟩ rfl) ?_
      refine reg_quiet rfl (shl_nat (a := xb s i (i / 2)) (s := 4) (m := ((xb s i (i / 2) * 16 : Nat) : Int)) rfl rfl (by decide) w30) ?_
      refine reg_quiet rfl (step_C tab_ok (fun K hk => hk)) ?_
      refine reg_quiet rfl (conv_int (m := ((nib s i : Nat) : Int)) tab_ok rfl rfl rfl w32) ?_
      refine reg_quiet rfl (or_nat (a := xb s i (i / 2) * 16) (b := nib s i) (m := xb s (i + 1) (i / 2)) rfl rfl rfl w33a w33b w33c) ?_
      refine reg_quiet rfl (index_own tab_ok rfl rfl rfl rfl rfl (by omega) (by omega)) ?_
      refine reg_store (store_row tab_ok rfl rfl rfl ⟨rfl, (xb s i (i / 2) : Int), ((xb s (i + 1) (i / 2) : Nat) : Int), hg, ⟨rfl, rfl, rfl⟩, rfl⟩ rfl) ?_
      refine reg_nil ?_
      refine blk_n ?_
      refine seq_n ?_
      refine wc_region ?_
      refine reg_quiet rfl (add_int tab_ok rfl rfl (wrap_i64 (by omega) (by omega))) ?_
      refine reg_quiet rfl (step_C tab_ok (fun K hk => hk)) ?_
      refine reg_nil ?_
      exact loop_n (i + 1) [] ⟨hlt, fun j c' hj hc' => by
        by_cases e : j = i
        · subst e; rw [hc] at hc'; cases hc'; exact hv
        · exact hall j c' (by omega) hc'⟩ (by omega) (.of rfl rfl rfl rfl rfl ⟨⟨_, rfl, .refl _⟩, rfl, ⟨_, rfl, .refl _⟩, rfl, ⟨_, rfl, .refl _⟩, rfl, ⟨_, rfl, .refl _⟩, rfl, trivial⟩ ⟨⟨rfl, rfl, _, rfl, .refl _⟩, ⟨rfl, rfl, _, rfl, RowLe.of_eq (congrArg (Row.ds 5 1 true encU8) hset)⟩, trivial⟩)
  · have he : i = 72 := by have := of_decide_eq_false h3; omega
    subst he
    have hk : okHex s = true := by
      rw [okHex, List.all_eq_true]
      intro c hc
      obtain ⟨j, hj, hjc⟩ := List.getElem_of_mem hc
      exact decide_eq_true (hall j c (by omega) (by rw [List.getElem?_eq_getElem hj, hjc]))
    rw [rowX_end]
    refine wc_exit ?_
    refine seq_x ?_
    refine loop_x ?_
    refine blk_x ?_
    refine seq_n ?_
    refine wc_freeze (env' := [(4, _), (2, _)]) (h' := [(64, some _)]) 65 _ rfl ⟨⟨_, rfl, Frz.own hbl.symm⟩, ⟨_, rfl, .refl _⟩, trivial⟩ ⟨⟨rfl, _, rfl, .refl _⟩, trivial⟩ ?_
    refine wc_seq ?_
    refine wc_region ?_
    refine reg_quiet rfl (step_C tab_ok (fun K hk => hk)) ?_
    refine reg_quiet rfl (arr_to (m := 16) tab_ok rfl rfl rfl rfl rfl a37 (byI_take _ 16)) ?_
    refine reg_quiet rfl (arr_ptr (L := 16) tab_ok rfl rfl a38 rfl rfl) ?_
    refine reg_quiet rfl (load_i tab_ok rfl rfl) ?_
    refine reg_quiet rfl (step_C tab_ok (fun K hk => hk)) ?_
    refine reg_store (store_row tab_ok rfl rfl rfl ⟨_, ⟨_, ⟨_, ⟨rfl, rfl, rfl⟩, rfl⟩, rfl⟩, rfl⟩ rfl) ?_
    refine reg_nil ?_
    refine seq_n ?_
    refine wc_seq ?_
    refine wc_region ?_
    refine reg_quiet rfl (step_C tab_ok (fun K hk => hk)) ?_
    refine reg_quiet rfl (arr_mid (lo := 16) (hi := 28) (ys := byI (((unhex s).drop 16).take (28 - 16))) tab_ok rfl rfl rfl rfl rfl rfl (by decide) a43 (by rw [byI_drop, byI_take])) ?_
    refine reg_quiet rfl (call_r hG1 rfl rfl (arg_e arg_nil) (.inl rfl) (fun _ => rfl)) ?_
    refine reg_quiet rfl (step_C tab_ok (fun K hk => hk)) ?_
    refine reg_quiet rfl (step_C tab_ok (fun K hk => hk)) ?_
    refine reg_quiet rfl (step_C tab_ok (fun K hk => hk)) ?_
    refine reg_quiet rfl (step_C tab_ok (fun K hk => hk)) ?_
    refine reg_quiet rfl (step_C tab_ok (fun K hk => hk)) ?_
    refine reg_store (store_row tab_ok rfl rfl rfl ⟨_, ⟨_, ⟨_, ⟨_, ⟨rfl, rfl, rfl⟩, rfl⟩, rfl⟩, rfl⟩, rfl⟩ rfl) ?_
    refine reg_nil ?_
    refine seq_n ?_
    refine wc_seq ?_
    refine wc_region ?_
    refine reg_quiet rfl (step_C tab_ok (fun K hk => hk)) ?_
    refine reg_quiet rfl (arr_mid (lo := 28) (hi := 32) (ys := byI (((unhex s).drop 28).take (32 - 28))) tab_ok rfl rfl rfl rfl rfl rfl (by decide) a51 (by rw [byI_drop, byI_take])) ?_
    refine reg_quiet rfl (call_r hG2 rfl rfl (arg_e arg_nil) (.inl rfl) (fun _ => rfl)) ?_
    refine reg_quiet rfl (step_C tab_ok (fun K hk => hk)) ?_
    refine reg_quiet rfl (step_C tab_ok (fun K hk => hk)) ?_
    refine reg_quiet rfl (step_C tab_ok (fun K hk => hk)) ?_
    refine reg_quiet rfl (step_C tab_ok (fun K hk => hk)) ?_
    refine reg_quiet rfl (step_C tab_ok (fun K hk => hk)) ?_
    refine reg_store (store_row tab_ok rfl rfl rfl ⟨_, ⟨_, ⟨_, ⟨_, ⟨rfl, rfl, rfl⟩, rfl⟩, rfl⟩, rfl⟩, rfl⟩ rfl) ?_
    refine reg_nil ?_
    refine seq_n ?_
    refine wc_seq ?_
    refine wc_region ?_
    refine reg_quiet rfl (step_C tab_ok (fun K hk => hk)) ?_
    refine reg_quiet rfl (arr_from (m := 32) tab_ok rfl rfl rfl rfl rfl a51 (byI_drop _ 32)) ?_
    refine reg_quiet rfl (call_r hG3 rfl rfl (arg_e arg_nil) (.inl rfl) (fun _ => rfl)) ?_
    refine reg_quiet rfl (step_C tab_ok (fun K hk => hk)) ?_
    refine reg_quiet rfl (step_C tab_ok (fun K hk => hk)) ?_
    refine reg_quiet rfl (step_C tab_ok (fun K hk => hk)) ?_
    refine reg_quiet rfl (step_C tab_ok (fun K hk => hk)) ?_
    refine reg_quiet rfl (step_C tab_ok (fun K hk => hk)) ?_
    refine reg_store (store_row tab_ok rfl rfl rfl ⟨_, ⟨_, ⟨_, ⟨_, ⟨rfl, rfl, rfl⟩, rfl⟩, rfl⟩, rfl⟩, rfl⟩ rfl) ?_
    refine reg_nil ?_
    refine seq_n ?_
    refine wc_seq ?_
    refine wc_region ?_
    refine reg_quiet rfl (load_box tab_ok rfl rfl rfl rfl) ?_
    refine reg_store (store_row tab_ok rfl rfl rfl ⟨_, ⟨rfl, rfl, rfl⟩, rfl⟩ rfl) ?_
    refine reg_quiet rfl (step_C tab_ok (fun K hk => hk)) ?_
    refine reg_nil ?_
    refine seq_n ?_
    refine wc_ret ?_
    exact ⟨trivial, _, rfl, [], .of rfl rfl rfl rfl rfl ⟨⟨_, rfl, AVLe.of_eq (by rw [parseU_ok hk, parseE_ok hk]; rfl)⟩, rfl, trivial⟩ trivial⟩
end Go.Proofs.Ytjpjchohpjbknaa

/- Ledgers: Parse. -/
namespace Go.Proofs.Ytjpjchohpjbknaa
open Go.Eng
set_option maxHeartbeats 4000000
set_option maxRecDepth 20000
attribute [local irreducible] WC RegS RegD SeqQ BlkQ ScoQ RegK CutK Sat SatN FnIs LoopQ StepIs OpIs
/-- A line that stands for a use. -/
def goodL (t : List UInt8) : Bool := decide (t.length = 72) && okHex t
def pU (t : List UInt8) : LUse := bif goodL t then useP (unhex t) else zeroUse
def pE (t : List UInt8) : Int := bif goodL t then 0 else 5
theorem parse_any (t : List UInt8) : FnIs Try.prog 67 [.d (strD t)] [] (.tup (.acons (.d (encUse (pU t))) (.acons (.d (i6 (pE t))) .anil))) [] := by
  by_cases h : t.length = 72
  · have := parse_is t h
    have e1 : pU t = parseU t := by simp [pU, parseU, goodL, h]
    have e2 : pE t = parseE t := by simp [pE, parseE, goodL, h]
    rw [e1, e2]
    exact this
  · have e1 : pU t = zeroUse := by simp [pU, goodL, h]
    have e2 : pE t = 5 := by simp [pE, goodL, h]
    rw [e1, e2]
    exact parse_len t h
theorem parse_good {t : List UInt8} (h : goodL t = true) : FnIs Try.prog 67 [.d (strD t)] [] (.tup (.acons (.d (encUse (useP (unhex t)))) (.acons (.d (i6 0)) .anil))) [] := by
  have := parse_any t
  rw [pU, pE, h] at this
  exact this
theorem parse_bad {t : List UInt8} (h : goodL t = false) : FnIs Try.prog 67 [.d (strD t)] [] (.tup (.acons (.d (encUse zeroUse)) (.acons (.d (i6 5)) .anil))) [] := by
  have := parse_any t
  rw [pU, pE, h] at this
  exact this
theorem goodL_len {t : List UInt8} (h : goodL t = true) : t.length = 72 := by
  simp only [goodL, Bool.and_eq_true, decide_eq_true_eq] at h
  exact h.1
/-- What is parsed. -/
def parseF (s : List UInt8) (acc : List LUse) : List LUse × Nat × Int :=
  if s = [] then (acc, 0, 0) else
  match _h : cutL s 10 with
  | none => ([], acc.length + 1, 5)
  | some (t, r) => if goodL t = false then ([], acc.length + 1, 5) else if validU (useP (unhex t)) = false then ([], acc.length + 1, 1) else parseF r (acc ++ [useP (unhex t)])
termination_by s.length
decreasing_by
  have := (cutL_some _h).2
  rw [this]
  simp
  omega
theorem parseF_nil (acc : List LUse) : parseF [] acc = (acc, 0, 0) := by rw [parseF, if_pos rfl]
theorem parseF_none {s : List UInt8} (acc : List LUse) (hs : s ≠ []) (h : cutL s 10 = none) : parseF s acc = ([], acc.length + 1, 5) := by
  rw [parseF, if_neg hs]
  split
  · rfl
  · rename_i h2; rw [h] at h2; cases h2
theorem parseF_some {s t r : List UInt8} (acc : List LUse) (hs : s ≠ []) (h : cutL s 10 = some (t, r)) : parseF s acc = if goodL t = false then ([], acc.length + 1, 5) else if validU (useP (unhex t)) = false then ([], acc.length + 1, 1) else parseF r (acc ++ [useP (unhex t)]) := by
  rw [parseF, if_neg hs]
  split
  · rename_i h2; rw [h] at h2; cases h2
  · rename_i h2; rw [h] at h2; cases h2; rfl
def parseT (s : List UInt8) : List LUse × Nat × Int := parseF s []
theorem parse_big (s : List UInt8) (hL : 1048576 < s.length) : FnIs Try.prog 41 [.d (strD s)] [] (.tup (.acons (.d zeroLed) (.acons (.d (i6 0)) (.acons (.d (i6 3)) .anil)))) [] := by
  have hd : decide ((1048576 : Int) < (s.length : Int)) = true := decide_eq_true (by omega)
  refine fnIs_of tab_ok Try.func41 rfl rfl rfl ?_
  refine wc_seq ?_
  refine wc_region ?_
  refine reg_new (step_C tab_ok (fun K hk => hk)) rfl ?_
  refine reg_quiet rfl (step_C tab_ok (fun K hk => hk)) ?_
  refine reg_quiet rfl (step_C tab_ok (fun K hk => hk)) ?_
  refine reg_nil ?_
  refine seq_n ?_
  refine wc_seq ?_
  refine wc_seq ?_
  refine wc_region ?_
  refine reg_quiet rfl (step_C tab_ok (fun K hk => hk)) ?_
  refine reg_quiet rfl (len_s tab_ok rfl rfl) ?_
  refine reg_quiet rfl (step_C tab_ok (fun K hk => hk)) ?_
  refine reg_nil ?_
  refine seq_n ?_
  refine wc_true rfl (by assumption) ?_
  refine wc_seq ?_
  refine wc_region ?_
  refine reg_quiet rfl (build_struct tab_ok rfl rfl rfl rfl) ?_
  refine reg_store (store_row tab_ok rfl rfl rfl ⟨_, ⟨rfl, rfl, rfl⟩, rfl⟩ rfl) ?_
  refine reg_quiet rfl (step_C tab_ok (fun K hk => hk)) ?_
  refine reg_quiet rfl (step_C tab_ok (fun K hk => hk)) ?_
  refine reg_nil ?_
  refine seq_n ?_
  refine wc_ret ?_
  refine seq_r ?_
  exact ⟨trivial, _, rfl, [], .of rfl rfl rfl rfl rfl ⟨⟨_, rfl, AVLe.of_eq rfl⟩, rfl, trivial⟩ trivial⟩
theorem zero_led_le {r : AV} : AVLe (.tup (.acons (.d zeroLed) r)) (.tup (.acons (.d (.cons (.arx 20 encUse []) .nil)) r)) := AVLe.tup1 (AVLe.d (DLe.cons (DLe.nil_arx 20 encUse) (.refl _)) rfl) rfl
theorem parse_text (s : List UInt8) (hL : s.length ≤ 1048576) : FnIs Try.prog 41 [.d (strD s)] [] (.tup (.acons (.d (.cons (.arx 20 encUse (parseT s).1) .nil)) (.acons (.int .i64 (parseT s).2.1) (.acons (.d (i6 (parseT s).2.2)) .anil)))) [] := by
  have hd : decide ((1048576 : Int) < (s.length : Int)) = false := decide_eq_false (by omega)
  refine fnIs_of tab_ok Try.func41 rfl rfl rfl ?_
  refine wc_seq ?_
  refine wc_region ?_
  refine reg_new (step_C tab_ok (fun K hk => hk)) rfl ?_
  refine reg_quiet rfl (step_C tab_ok (fun K hk => hk)) ?_
  refine reg_quiet rfl (step_C tab_ok (fun K hk => hk)) ?_
  refine reg_nil ?_
  refine seq_n ?_
  refine wc_seq ?_
  refine wc_seq ?_
  refine wc_region ?_
  refine reg_quiet rfl (step_C tab_ok (fun K hk => hk)) ?_
  refine reg_quiet rfl (len_s tab_ok rfl rfl) ?_
  refine reg_quiet rfl (step_C tab_ok (fun K hk => hk)) ?_
  refine reg_nil ?_
  refine seq_n ?_
  refine wc_false rfl (by assumption) ?_
  refine wc_skip ?_
  refine seq_n ?_
  refine wc_seq ?_
  refine wc_block ?_
  refine wc_inv (fun a : List LUse × List UInt8 => ⟨[(3, .int .i64 a.1.length), (2, .ptr 64 []), (0, .d (strD a.2))], [(64, some (.box 88 (.acons (.own 66 0 a.1.length 20 none) (.d .nil)))), (66, some (rowU false a.1))], 72, Try.f41.ntmps, 64⟩) (fun a => parseF a.2 a.1 = parseT s ∧ 73 * a.1.length + a.2.length ≤ s.length) (fun a => a.2.length) ([], s) [(66, none)] ⟨rfl, by simp⟩
    (.of rfl rfl rfl rfl rfl ⟨⟨_, rfl, .refl _⟩, rfl, ⟨_, rfl, .refl _⟩, rfl, ⟨_, rfl, .refl _⟩, rfl, trivial⟩ ⟨⟨rfl, rfl, _, rfl, RowLe.split1⟩, ⟨rfl, rfl, rfl⟩, trivial⟩) ?_
  rintro ⟨acc, rest⟩ ⟨hF, hN⟩
  simp only at hF hN
  refine wc_of ?_
  refine wc_seq ?_
  refine wc_seq ?_
  refine wc_region ?_
  refine reg_quiet rfl (step_C tab_ok (fun K hk => hk)) ?_
  refine reg_quiet rfl (neq_s tab_ok rfl rfl rfl) ?_
  refine reg_nil ?_
  refine seq_n ?_
  refine wc_cond rfl (fun h3 => ?_) (fun h3 => ?_)
  · have hne : rest ≠ [] := by
      intro e
      rw [e] at h3
      simp at h3
    have w17 : IntKind.i64.wrap ((acc.length : Int) + 1) = ((acc.length + 1 : Nat) : Int) := by rw [wrap_i64 (by omega) (by omega)]; rfl
    have hlen2 : acc.length + 1 ≤ 1048576 := by omega
    cases hc : cutL rest 10 with
    | none =>
      have hcut := cut_none rest 10 hc
      have hR := parseF_none acc hne hc
      rw [hF] at hR
      cases hg : goodL rest with
      | true =>
        have hpar := parse_good hg
        refine wc_skip ?_
        refine seq_n ?_
        refine wc_block ?_
        refine wc_seq ?_
        refine wc_region ?_
        refine reg_quiet rfl (step_C tab_ok (fun K hk => hk)) ?_
        refine reg_quiet rfl (add_int (m := ((acc.length + 1 : Nat) : Int)) tab_ok rfl rfl w17) ?_
        refine reg_quiet rfl (step_C tab_ok (fun K hk => hk)) ?_
        refine reg_nil ?_
        refine seq_n ?_
        refine wc_seq ?_
        refine wc_region ?_
        refine reg_quiet rfl (step_C tab_ok (fun K hk => hk)) ?_
        refine reg_quiet rfl (call_r hcut rfl rfl (arg_e (arg_e arg_nil)) (.inl rfl) (fun _ => rfl)) ?_
        refine reg_quiet rfl (step_C tab_ok (fun K hk => hk)) ?_
        refine reg_quiet rfl (step_C tab_ok (fun K hk => hk)) ?_
        refine reg_quiet rfl (step_C tab_ok (fun K hk => hk)) ?_
        refine reg_quiet rfl (step_C tab_ok (fun K hk => hk)) ?_
        refine reg_quiet rfl (step_C tab_ok (fun K hk => hk)) ?_
        refine reg_quiet rfl (step_C tab_ok (fun K hk => hk)) ?_
        refine reg_quiet rfl (step_C tab_ok (fun K hk => hk)) ?_
        refine reg_nil ?_
        refine seq_n ?_
        refine wc_seq ?_
        refine wc_region ?_
        refine reg_quiet rfl (step_C tab_ok (fun K hk => hk)) ?_
        refine reg_quiet rfl (call_r hpar rfl rfl (arg_e arg_nil) (.inl rfl) (fun _ => rfl)) ?_
        refine reg_quiet rfl (step_C tab_ok (fun K hk => hk)) ?_
        refine reg_quiet rfl (step_C tab_ok (fun K hk => hk)) ?_
        refine reg_quiet rfl (step_C tab_ok (fun K hk => hk)) ?_
        refine reg_new (step_C tab_ok (fun K hk => hk)) rfl ?_
        refine reg_store (store_row tab_ok rfl rfl rfl ⟨_, ⟨rfl, rfl, rfl⟩, rfl⟩ rfl) ?_
        refine reg_quiet rfl (step_C tab_ok (fun K hk => hk)) ?_
        refine reg_nil ?_
        refine seq_n ?_
        refine wc_seq ?_
        refine wc_block ?_
        refine wc_seq ?_
        refine wc_region ?_
        refine reg_quiet rfl (step_C tab_ok (fun K hk => hk)) ?_
        refine reg_quiet rfl (step_C tab_ok (fun K hk => hk)) ?_
        refine reg_quiet rfl (step_C tab_ok (fun K hk => hk)) ?_
        refine reg_on rfl rfl rfl ?_
        refine reg_quiet rfl (step_C tab_ok (fun K hk => hk)) ?_
        refine reg_on rfl rfl rfl ?_
        refine reg_quiet rfl (step_C tab_ok (fun K hk => hk)) ?_
        refine reg_quiet rfl (pick_F tab_ok rfl rfl rfl) ?_
        refine reg_quiet rfl (step_C tab_ok (fun K hk => hk)) ?_
        refine reg_nil ?_
        refine seq_n ?_
        refine wc_true rfl rfl ?_
        refine wc_seq ?_
        refine wc_region ?_
        refine reg_quiet rfl (build_struct tab_ok rfl rfl rfl rfl) ?_
        refine reg_quiet rfl (step_C tab_ok (fun K hk => hk)) ?_
        refine reg_store (store_row tab_ok rfl rfl rfl ⟨_, ⟨rfl, rfl, rfl⟩, rfl⟩ rfl) ?_
        refine reg_quiet rfl (step_C tab_ok (fun K hk => hk)) ?_
        refine reg_quiet rfl (step_C tab_ok (fun K hk => hk)) ?_
        refine reg_nil ?_
        refine seq_n ?_
        refine wc_ret ?_
        refine blk_r ?_
        refine seq_r ?_
        refine blk_r ?_
        refine loop_r ?_
        refine blk_r ?_
        refine seq_r ?_
        exact ⟨trivial, _, rfl, [], .of rfl rfl rfl rfl rfl ⟨⟨_, rfl, by rw [hR]; exact zero_led_le⟩, rfl, trivial⟩ trivial⟩
      | false =>
        have hpar := parse_bad hg
        refine wc_skip ?_
        refine seq_n ?_
        refine wc_block ?_
        refine wc_seq ?_
        refine wc_region ?_
        refine reg_quiet rfl (step_C tab_ok (fun K hk => hk)) ?_
        refine reg_quiet rfl (add_int (m := ((acc.length + 1 : Nat) : Int)) tab_ok rfl rfl w17) ?_
        refine reg_quiet rfl (step_C tab_ok (fun K hk => hk)) ?_
        refine reg_nil ?_
        refine seq_n ?_
        refine wc_seq ?_
        refine wc_region ?_
        refine reg_quiet rfl (step_C tab_ok (fun K hk => hk)) ?_
        refine reg_quiet rfl (call_r hcut rfl rfl (arg_e (arg_e arg_nil)) (.inl rfl) (fun _ => rfl)) ?_
        refine reg_quiet rfl (step_C tab_ok (fun K hk => hk)) ?_
        refine reg_quiet rfl (step_C tab_ok (fun K hk => hk)) ?_
        refine reg_quiet rfl (step_C tab_ok (fun K hk => hk)) ?_
        refine reg_quiet rfl (step_C tab_ok (fun K hk => hk)) ?_
        refine reg_quiet rfl (step_C tab_ok (fun K hk => hk)) ?_
        refine reg_quiet rfl (step_C tab_ok (fun K hk => hk)) ?_
        refine reg_quiet rfl (step_C tab_ok (fun K hk => hk)) ?_
        refine reg_nil ?_
        refine seq_n ?_
        refine wc_seq ?_
        refine wc_region ?_
        refine reg_quiet rfl (step_C tab_ok (fun K hk => hk)) ?_
        refine reg_quiet rfl (call_r hpar rfl rfl (arg_e arg_nil) (.inl rfl) (fun _ => rfl)) ?_
        refine reg_quiet rfl (step_C tab_ok (fun K hk => hk)) ?_
        refine reg_quiet rfl (step_C tab_ok (fun K hk => hk)) ?_
        refine reg_quiet rfl (step_C tab_ok (fun K hk => hk)) ?_
        refine reg_new (step_C tab_ok (fun K hk => hk)) rfl ?_
        refine reg_store (store_row tab_ok rfl rfl rfl ⟨_, ⟨rfl, rfl, rfl⟩, rfl⟩ rfl) ?_
        refine reg_quiet rfl (step_C tab_ok (fun K hk => hk)) ?_
        refine reg_nil ?_
        refine seq_n ?_
        refine wc_seq ?_
        refine wc_block ?_
        refine wc_seq ?_
        refine wc_region ?_
        refine reg_quiet rfl (step_C tab_ok (fun K hk => hk)) ?_
        refine reg_quiet rfl (step_C tab_ok (fun K hk => hk)) ?_
        refine reg_quiet rfl (step_C tab_ok (fun K hk => hk)) ?_
        refine reg_skip rfl rfl rfl rfl rfl ?_
        refine reg_skip rfl rfl rfl rfl rfl ?_
        refine reg_quiet rfl (pick_T tab_ok rfl rfl rfl) ?_
        refine reg_quiet rfl (step_C tab_ok (fun K hk => hk)) ?_
        refine reg_nil ?_
        refine seq_n ?_
        refine wc_true rfl rfl ?_
        refine wc_seq ?_
        refine wc_region ?_
        refine reg_quiet rfl (build_struct tab_ok rfl rfl rfl rfl) ?_
        refine reg_quiet rfl (step_C tab_ok (fun K hk => hk)) ?_
        refine reg_store (store_row tab_ok rfl rfl rfl ⟨_, ⟨rfl, rfl, rfl⟩, rfl⟩ rfl) ?_
        refine reg_quiet rfl (step_C tab_ok (fun K hk => hk)) ?_
        refine reg_quiet rfl (step_C tab_ok (fun K hk => hk)) ?_
        refine reg_nil ?_
        refine seq_n ?_
        refine wc_ret ?_
        refine blk_r ?_
        refine seq_r ?_
        refine blk_r ?_
        refine loop_r ?_
        refine blk_r ?_
        refine seq_r ?_
        exact ⟨trivial, _, rfl, [], .of rfl rfl rfl rfl rfl ⟨⟨_, rfl, by rw [hR]; exact zero_led_le⟩, rfl, trivial⟩ trivial⟩
    | some p =>
      obtain ⟨t, r⟩ := p
      have hcut := cut_some rest t r 10 hc (by omega)
      have hR := parseF_some acc hne hc
      rw [hF] at hR
      obtain ⟨_, hre⟩ := cutL_some hc
      have hrl : rest.length = t.length + r.length + 1 := by rw [hre]; simp; omega
      cases hg : goodL t with
      | false =>
        have hpar := parse_bad hg
        rw [if_pos hg] at hR
        refine wc_skip ?_
        refine seq_n ?_
        refine wc_block ?_
        refine wc_seq ?_
        refine wc_region ?_
        refine reg_quiet rfl (step_C tab_ok (fun K hk => hk)) ?_
        refine reg_quiet rfl (add_int (m := ((acc.length + 1 : Nat) : Int)) tab_ok rfl rfl w17) ?_
        refine reg_quiet rfl (step_C tab_ok (fun K hk => hk)) ?_
        refine reg_nil ?_
        refine seq_n ?_
        refine wc_seq ?_
        refine wc_region ?_
        refine reg_quiet rfl (step_C tab_ok (fun K hk => hk)) ?_
        refine reg_quiet rfl (call_r hcut rfl rfl (arg_e (arg_e arg_nil)) (.inl rfl) (fun _ => rfl)) ?_
        refine reg_quiet rfl (step_C tab_ok (fun K hk => hk)) ?_
        refine reg_quiet rfl (step_C tab_ok (fun K hk => hk)) ?_
        refine reg_quiet rfl (step_C tab_ok (fun K hk => hk)) ?_
        refine reg_quiet rfl (step_C tab_ok (fun K hk => hk)) ?_
        refine reg_quiet rfl (step_C tab_ok (fun K hk => hk)) ?_
        refine reg_quiet rfl (step_C tab_ok (fun K hk => hk)) ?_
        refine reg_quiet rfl (step_C tab_ok (fun K hk => hk)) ?_
        refine reg_nil ?_
        refine seq_n ?_
        refine wc_seq ?_
        refine wc_region ?_
        refine reg_quiet rfl (step_C tab_ok (fun K hk => hk)) ?_
        refine reg_quiet rfl (call_r hpar rfl rfl (arg_e arg_nil) (.inl rfl) (fun _ => rfl)) ?_
        refine reg_quiet rfl (step_C tab_ok (fun K hk => hk)) ?_
        refine reg_quiet rfl (step_C tab_ok (fun K hk => hk)) ?_
        refine reg_quiet rfl (step_C tab_ok (fun K hk => hk)) ?_
        refine reg_new (step_C tab_ok (fun K hk => hk)) rfl ?_
        refine reg_store (store_row tab_ok rfl rfl rfl ⟨_, ⟨rfl, rfl, rfl⟩, rfl⟩ rfl) ?_
        refine reg_quiet rfl (step_C tab_ok (fun K hk => hk)) ?_
        refine reg_nil ?_
        refine seq_n ?_
        refine wc_seq ?_
        refine wc_block ?_
        refine wc_seq ?_
        refine wc_region ?_
        refine reg_quiet rfl (step_C tab_ok (fun K hk => hk)) ?_
        refine reg_quiet rfl (step_C tab_ok (fun K hk => hk)) ?_
        refine reg_quiet rfl (step_C tab_ok (fun K hk => hk)) ?_
        refine reg_skip rfl rfl rfl rfl rfl ?_
        refine reg_skip rfl rfl rfl rfl rfl ?_
        refine reg_quiet rfl (pick_T tab_ok rfl rfl rfl) ?_
        refine reg_quiet rfl (step_C tab_ok (fun K hk => hk)) ?_
        refine reg_nil ?_
        refine seq_n ?_
        refine wc_true rfl rfl ?_
        refine wc_seq ?_
        refine wc_region ?_
        refine reg_quiet rfl (build_struct tab_ok rfl rfl rfl rfl) ?_
        refine reg_quiet rfl (step_C tab_ok (fun K hk => hk)) ?_
        refine reg_store (store_row tab_ok rfl rfl rfl ⟨_, ⟨rfl, rfl, rfl⟩, rfl⟩ rfl) ?_
        refine reg_quiet rfl (step_C tab_ok (fun K hk => hk)) ?_
        refine reg_quiet rfl (step_C tab_ok (fun K hk => hk)) ?_
        refine reg_nil ?_
        refine seq_n ?_
        refine wc_ret ?_
        refine blk_r ?_
        refine seq_r ?_
        refine blk_r ?_
        refine loop_r ?_
        refine blk_r ?_
        refine seq_r ?_
        exact ⟨trivial, _, rfl, [], .of rfl rfl rfl rfl rfl ⟨⟨_, rfl, by rw [hR]; exact zero_led_le⟩, rfl, trivial⟩ trivial⟩
      | true =>
        have hpar := parse_good hg
        have ht := goodL_len hg
        rw [if_neg (by rw [hg]; simp)] at hR
        cases hv : validU (useP (unhex t)) with
        | false =>
          have hv2 : (!validU (useP (unhex t))) = true := by rw [hv]; rfl
          rw [if_pos hv] at hR
          refine wc_skip ?_
          refine seq_n ?_
          refine wc_block ?_
          refine wc_seq ?_
          refine wc_region ?_
          refine reg_quiet rfl (step_C tab_ok (fun K hk => hk)) ?_
          refine reg_quiet rfl (add_int (m := ((acc.length + 1 : Nat) : Int)) tab_ok rfl rfl w17) ?_
          refine reg_quiet rfl (step_C tab_ok (fun K hk => hk)) ?_
          refine reg_nil ?_
          refine seq_n ?_
          refine wc_seq ?_
          refine wc_region ?_
          refine reg_quiet rfl (step_C tab_ok (fun K hk => hk)) ?_
          refine reg_quiet rfl (call_r hcut rfl rfl (arg_e (arg_e arg_nil)) (.inl rfl) (fun _ => rfl)) ?_
          refine reg_quiet rfl (step_C tab_ok (fun K hk => hk)) ?_
          refine reg_quiet rfl (step_C tab_ok (fun K hk => hk)) ?_
          refine reg_quiet rfl (step_C tab_ok (fun K hk => hk)) ?_
          refine reg_quiet rfl (step_C tab_ok (fun K hk => hk)) ?_
          refine reg_quiet rfl (step_C tab_ok (fun K hk => hk)) ?_
          refine reg_quiet rfl (step_C tab_ok (fun K hk => hk)) ?_
          refine reg_quiet rfl (step_C tab_ok (fun K hk => hk)) ?_
          refine reg_nil ?_
          refine seq_n ?_
          refine wc_seq ?_
          refine wc_region ?_
          refine reg_quiet rfl (step_C tab_ok (fun K hk => hk)) ?_
          refine reg_quiet rfl (call_r hpar rfl rfl (arg_e arg_nil) (.inl rfl) (fun _ => rfl)) ?_
          refine reg_quiet rfl (step_C tab_ok (fun K hk => hk)) ?_
          refine reg_quiet rfl (step_C tab_ok (fun K hk => hk)) ?_
          refine reg_quiet rfl (step_C tab_ok (fun K hk => hk)) ?_
          refine reg_new (step_C tab_ok (fun K hk => hk)) rfl ?_
          refine reg_store (store_row tab_ok rfl rfl rfl ⟨_, ⟨rfl, rfl, rfl⟩, rfl⟩ rfl) ?_
          refine reg_quiet rfl (step_C tab_ok (fun K hk => hk)) ?_
          refine reg_nil ?_
          refine seq_n ?_
          refine wc_seq ?_
          refine wc_block ?_
          refine wc_seq ?_
          refine wc_region ?_
          refine reg_quiet rfl (step_C tab_ok (fun K hk => hk)) ?_
          refine reg_quiet rfl (step_C tab_ok (fun K hk => hk)) ?_
          refine reg_quiet rfl (step_C tab_ok (fun K hk => hk)) ?_
          refine reg_on rfl rfl rfl ?_
          refine reg_quiet rfl (step_C tab_ok (fun K hk => hk)) ?_
          refine reg_on rfl rfl rfl ?_
          refine reg_quiet rfl (step_C tab_ok (fun K hk => hk)) ?_
          refine reg_quiet rfl (pick_F tab_ok rfl rfl rfl) ?_
          refine reg_quiet rfl (step_C tab_ok (fun K hk => hk)) ?_
          refine reg_nil ?_
          refine seq_n ?_
          refine wc_false rfl rfl ?_
          refine wc_seq ?_
          refine wc_region ?_
          refine reg_quiet rfl (load_box tab_ok rfl rfl rfl rfl) ?_
          refine reg_quiet rfl (call_r (valid_is (useP (unhex t))) rfl rfl (arg_e arg_nil) (.inl rfl) (fun _ => rfl)) ?_
          refine reg_quiet rfl (step_C tab_ok (fun K hk => hk)) ?_
          refine reg_quiet rfl (step_C tab_ok (fun K hk => hk)) ?_
          refine reg_nil ?_
          refine seq_n ?_
          refine wc_true rfl (by assumption) ?_
          refine wc_seq ?_
          refine wc_region ?_
          refine reg_quiet rfl (build_struct tab_ok rfl rfl rfl rfl) ?_
          refine reg_quiet rfl (step_C tab_ok (fun K hk => hk)) ?_
          refine reg_store (store_row tab_ok rfl rfl rfl ⟨_, ⟨rfl, rfl, rfl⟩, rfl⟩ rfl) ?_
          refine reg_quiet rfl (step_C tab_ok (fun K hk => hk)) ?_
          refine reg_quiet rfl (step_C tab_ok (fun K hk => hk)) ?_
          refine reg_nil ?_
          refine seq_n ?_
          refine wc_ret ?_
          refine blk_r ?_
          refine seq_r ?_
          refine blk_r ?_
          refine loop_r ?_
          refine blk_r ?_
          refine seq_r ?_
          exact ⟨trivial, _, rfl, [], .of rfl rfl rfl rfl rfl ⟨⟨_, rfl, by rw [hR]; exact zero_led_le⟩, rfl, trivial⟩ trivial⟩
        | true =>
          have hv2 : (!validU (useP (unhex t))) = false := by rw [hv]; rfl
          rw [if_neg (by rw [hv]; simp)] at hR
          refine wc_skip ?_
          refine seq_n ?_
          refine wc_block ?_
          refine wc_seq ?_
          refine wc_region ?_
          refine reg_quiet rfl (step_C tab_ok (fun K hk => hk)) ?_
          refine reg_quiet rfl (add_int (m := ((acc.length + 1 : Nat) : Int)) tab_ok rfl rfl w17) ?_
          refine reg_quiet rfl (step_C tab_ok (fun K hk => hk)) ?_
          refine reg_nil ?_
          refine seq_n ?_
          refine wc_seq ?_
          refine wc_region ?_
          refine reg_quiet rfl (step_C tab_ok (fun K hk => hk)) ?_
          refine reg_quiet rfl (call_r hcut rfl rfl (arg_e (arg_e arg_nil)) (.inl rfl) (fun _ => rfl)) ?_
          refine reg_quiet rfl (step_C tab_ok (fun K hk => hk)) ?_
          refine reg_quiet rfl (step_C tab_ok (fun K hk => hk)) ?_
          refine reg_quiet rfl (step_C tab_ok (fun K hk => hk)) ?_
          refine reg_quiet rfl (step_C tab_ok (fun K hk => hk)) ?_
          refine reg_quiet rfl (step_C tab_ok (fun K hk => hk)) ?_
          refine reg_quiet rfl (step_C tab_ok (fun K hk => hk)) ?_
          refine reg_quiet rfl (step_C tab_ok (fun K hk => hk)) ?_
          refine reg_nil ?_
          refine seq_n ?_
          refine wc_seq ?_
          refine wc_region ?_
          refine reg_quiet rfl (step_C tab_ok (fun K hk => hk)) ?_
          refine reg_quiet rfl (call_r hpar rfl rfl (arg_e arg_nil) (.inl rfl) (fun _ => rfl)) ?_
          refine reg_quiet rfl (step_C tab_ok (fun K hk => hk)) ?_
          refine reg_quiet rfl (step_C tab_ok (fun K hk => hk)) ?_
          refine reg_quiet rfl (step_C tab_ok (fun K hk => hk)) ?_
          refine reg_new (step_C tab_ok (fun K hk => hk)) rfl ?_
          refine reg_store (store_row tab_ok rfl rfl rfl ⟨_, ⟨rfl, rfl, rfl⟩, rfl⟩ rfl) ?_
          refine reg_quiet rfl (step_C tab_ok (fun K hk => hk)) ?_
          refine reg_nil ?_
          refine seq_n ?_
          refine wc_seq ?_
          refine wc_block ?_
          refine wc_seq ?_
          refine wc_region ?_
          refine reg_quiet rfl (step_C tab_ok (fun K hk => hk)) ?_
          refine reg_quiet rfl (step_C tab_ok (fun K hk => hk)) ?_
          refine reg_quiet rfl (step_C tab_ok (fun K hk => hk)) ?_
          refine reg_on rfl rfl rfl ?_
          refine reg_quiet rfl (step_C tab_ok (fun K hk => hk)) ?_
          refine reg_on rfl rfl rfl ?_
          refine reg_quiet rfl (step_C tab_ok (fun K hk => hk)) ?_
          refine reg_quiet rfl (pick_F tab_ok rfl rfl rfl) ?_
          refine reg_quiet rfl (step_C tab_ok (fun K hk => hk)) ?_
          refine reg_nil ?_
          refine seq_n ?_
          refine wc_false rfl rfl ?_
          refine wc_seq ?_
          refine wc_region ?_
          refine reg_quiet rfl (load_box tab_ok rfl rfl rfl rfl) ?_
          refine reg_quiet rfl (call_r (valid_is (useP (unhex t))) rfl rfl (arg_e arg_nil) (.inl rfl) (fun _ => rfl)) ?_
          refine reg_quiet rfl (step_C tab_ok (fun K hk => hk)) ?_
          refine reg_quiet rfl (step_C tab_ok (fun K hk => hk)) ?_
          refine reg_nil ?_
          refine seq_n ?_
          refine wc_false rfl (by assumption) ?_
          refine wc_skip ?_
          refine blk_n ?_
          refine seq_n ?_
          refine wc_seq ?_
          refine wc_region ?_
          refine reg_quiet rfl (step_C tab_ok (fun K hk => hk)) ?_
          refine reg_quiet rfl (load_box tab_ok rfl rfl rfl rfl) ?_
          refine reg_quiet rfl (load_box tab_ok rfl rfl rfl rfl) ?_
          refine reg_new (build_slice tab_ok rfl rfl rfl rfl rfl rfl rfl rfl) rfl ?_
          refine reg_new2 (append_one (s := 20) (enc := encUse) tab_ok (useP (unhex t)) rfl rfl rfl rfl rfl rfl rfl rfl rfl hlen2 rfl) rfl ?_
          refine reg_quiet rfl (step_C tab_ok (fun K hk => hk)) ?_
          refine reg_store (store_row tab_ok rfl rfl rfl ⟨_, ⟨_, ⟨rfl, rfl, rfl⟩, rfl⟩, rfl⟩ rfl) ?_
          refine reg_nil ?_
          refine seq_n ?_
          refine wc_region ?_
          refine reg_quiet rfl (step_C tab_ok (fun K hk => hk)) ?_
          refine reg_quiet rfl (step_C tab_ok (fun K hk => hk)) ?_
          refine reg_nil ?_
          refine blk_n ?_
          refine loop_n (acc ++ [useP (unhex t)], r) [(66, some 368)] ⟨hR.symm, by simp; omega⟩ (show r.length < rest.length by omega) ?_
          simp only [List.length_append, List.length_cons, List.length_nil, Nat.zero_add]
          exact .of rfl rfl rfl rfl rfl ⟨⟨_, rfl, .refl _⟩, rfl, ⟨_, rfl, .refl _⟩, rfl, ⟨_, rfl, .refl _⟩, rfl, trivial⟩ ⟨⟨rfl, rfl, _, rfl, .refl _⟩, ⟨rfl, rfl, _, rfl, .refl _⟩, trivial⟩
  · have he : rest = [] := by
      by_cases e : rest = []
      · exact e
      · simp [e] at h3
    subst he
    rw [parseF_nil] at hF
    refine wc_exit ?_
    refine seq_x ?_
    refine loop_x ?_
    refine blk_x ?_
    refine seq_n ?_
    refine wc_seq ?_
    refine wc_region ?_
    refine reg_quiet rfl (step_C tab_ok (fun K hk => hk)) ?_
    refine reg_quiet rfl (load_box tab_ok rfl rfl rfl rfl) ?_
    refine reg_new2 (call_h [(0, some 66)] (clipu_is acc acc.length false) rfl rfl rfl (arg_give rfl rfl arg_nil) ⟨⟨rfl, rfl, _, _, rfl, rfl, .refl _⟩, trivial⟩ rfl rfl (.inl rfl) rfl rfl) rfl ?_
    refine reg_quiet rfl (step_C tab_ok (fun K hk => hk)) ?_
    refine reg_store (store_row tab_ok rfl rfl rfl ⟨_, ⟨_, ⟨rfl, rfl, rfl⟩, rfl⟩, rfl⟩ rfl) ?_
    refine reg_nil ?_
    refine seq_n ?_
    refine wc_freeze (env' := [(2, _)]) (h' := [(64, some _)]) 66 _ rfl ⟨⟨_, rfl, .refl _⟩, trivial⟩ ⟨⟨rfl, _, rfl, FrzR.box (Frz.dcons (Frz.ownx rfl rfl) (Frz.refl _))⟩, trivial⟩ ?_
    refine wc_seq ?_
    refine wc_region ?_
    refine reg_quiet rfl (load_box tab_ok rfl rfl rfl rfl) ?_
    refine reg_store (store_row tab_ok rfl rfl rfl ⟨_, ⟨rfl, rfl, rfl⟩, rfl⟩ rfl) ?_
    refine reg_quiet rfl (step_C tab_ok (fun K hk => hk)) ?_
    refine reg_quiet rfl (step_C tab_ok (fun K hk => hk)) ?_
    refine reg_nil ?_
    refine seq_n ?_
    refine wc_ret ?_
    exact ⟨trivial, _, rfl, [], .of rfl rfl rfl rfl rfl ⟨⟨_, rfl, AVLe.of_eq (by rw [← hF]; rfl)⟩, rfl, trivial⟩ trivial⟩
end Go.Proofs.Ytjpjchohpjbknaa

/- Plain law: the text of a ledger, and what is parsed. -/
set_option linter.unusedSimpArgs false
set_option linter.unusedVariables false
namespace Go.Proofs.Ytjpjchohpjbknaa
open Go.Eng

theorem take_of {α : Type} {a b : List α} {n : Nat} (h : a.length = n) : (a ++ b).take n = a := by subst h; exact List.take_left
theorem drop_of {α : Type} {a b : List α} {n : Nat} (h : a.length = n) : (a ++ b).drop n = b := by subst h; exact List.drop_left
theorem getN_foldl : ∀ (l : List UInt8) (a : Nat), l.foldl (fun a b => a * 256 + b.toNat) a = a * 256 ^ l.length + getN l
  | [], a => by simp [getN]
  | b :: l, a => by
    have h1 := getN_foldl l (a * 256 + b.toNat)
    have h2 := getN_foldl l (0 * 256 + b.toNat)
    simp only [List.foldl_cons, List.length_cons] at h1 h2 ⊢
    rw [h1]
    have h3 : getN (b :: l) = (0 * 256 + b.toNat) * 256 ^ l.length + getN l := h2
    rw [h3, Nat.pow_succ, Nat.add_mul, Nat.zero_mul, Nat.zero_add, Nat.mul_assoc, Nat.mul_comm 256, Nat.add_assoc]
theorem getN_cons (b : UInt8) (l : List UInt8) : getN (b :: l) = b.toNat * 256 ^ l.length + getN l := by
  have h := getN_foldl l (0 * 256 + b.toNat)
  have h2 : getN (b :: l) = (0 * 256 + b.toNat) * 256 ^ l.length + getN l := h
  rw [h2, Nat.zero_mul, Nat.zero_add]
theorem putN_mod : ∀ (n a v : Nat), putN n (a * 256 ^ n + v) = putN n v
  | 0, _, _ => rfl
  | i + 1, a, v => by
    have e : a * 256 ^ (i + 1) + v = (a * 256) * 256 ^ i + v := by rw [Nat.pow_succ, Nat.mul_assoc, Nat.mul_comm 256]
    simp only [putN]
    rw [e, putN_mod i]
    congr 1
    have hp : 0 < 256 ^ i := Nat.pow_pos (by decide)
    rw [Nat.add_comm, Nat.add_mul_div_right _ _ hp]
    apply UInt8.toNat_inj.1
    simp only [Nat.toUInt8_eq, UInt8.toNat_ofNat']
    omega
theorem putN_getN : ∀ (l : List UInt8), putN l.length (getN l) = l
  | [] => rfl
  | b :: l => by
    have hp : 0 < 256 ^ l.length := Nat.pow_pos (by decide)
    have hlt := getN_lt l
    simp only [List.length_cons, putN]
    rw [getN_cons, putN_mod, putN_getN l]
    congr 1
    rw [Nat.add_comm, Nat.add_mul_div_right _ _ hp, Nat.div_eq_of_lt hlt, Nat.zero_add]
    simp
theorem getN_putN : ∀ (n v : Nat), v < 256 ^ n → getN (putN n v) = v
  | 0, v, h => by simp at h; subst h; rfl
  | i + 1, v, h => by
    have hp : 0 < 256 ^ i := Nat.pow_pos (by decide)
    have hq : v / 256 ^ i < 256 := Nat.div_lt_of_lt_mul (by rw [Nat.pow_succ] at h; exact h)
    have hm : putN i v = putN i (v % 256 ^ i) := by
      have := putN_mod i (v / 256 ^ i) (v % 256 ^ i)
      rw [← this]
      congr 1
      rw [Nat.mul_comm]
      exact (Nat.div_add_mod v (256 ^ i)).symm
    simp only [putN]
    rw [getN_cons, hm, getN_putN i _ (Nat.mod_lt _ hp), putN_len]
    simp only [Nat.toUInt8_eq, UInt8.toNat_ofNat']
    rw [Nat.mod_eq_of_lt hq, Nat.mul_comm]
    exact Nat.div_add_mod v (256 ^ i)

theorem keyB_byI (l : List UInt8) : keyB (byI l) = l := by
  simp only [keyB, byI, List.map_map]
  conv => rhs; rw [← List.map_id l]
  apply List.map_congr_left
  intro b _
  simp
theorem useP_row {b : List UInt8} (h : b.length = 36) : rowL (useP b) = b := by
  have h1 : ((b.drop 16).take (28 - 16)).length = 12 := by rw [List.length_take, List.length_drop]; omega
  have e1 := putN_getN (((b.drop 16).take (28 - 16)).take 4)
  have e2 := putN_getN (((b.drop 16).take (28 - 16)).drop 4)
  have e3 := putN_getN ((b.drop 28).take (32 - 28))
  have e4 := putN_getN (b.drop 32)
  rw [show (((b.drop 16).take (28 - 16)).take 4).length = 4 by rw [List.length_take, h1]; rfl] at e1
  rw [show (((b.drop 16).take (28 - 16)).drop 4).length = 8 by rw [List.length_drop, h1]] at e2
  rw [show ((b.drop 28).take (32 - 28)).length = 4 by rw [List.length_take, List.length_drop]; omega] at e3
  rw [show (b.drop 32).length = 4 by rw [List.length_drop]; omega] at e4
  simp only [rowL, useP, useB, nonB, keyB_byI, Int.toNat_natCast, e1, e2, e3, e4, List.take_append_drop]
  have f1 : (b.drop 28).take (32 - 28) ++ b.drop 32 = b.drop 28 := by
    have := List.take_append_drop (32 - 28) (b.drop 28)
    rw [List.drop_drop] at this
    exact this
  have f2 : (b.drop 16).take (28 - 16) ++ b.drop 28 = b.drop 16 := by
    have := List.take_append_drop (28 - 16) (b.drop 16)
    rw [List.drop_drop] at this
    exact this
  rw [f1, f2, List.take_append_drop]
theorem useP_ok {b : List UInt8} (h : b.length = 36) : OkU (useP b) := by
  have h1 : ((b.drop 16).take (28 - 16)).length = 12 := by rw [List.length_take, List.length_drop]; omega
  have e1 := getN_lt (((b.drop 16).take (28 - 16)).take 4)
  have e2 := getN_lt (((b.drop 16).take (28 - 16)).drop 4)
  have e3 := getN_lt ((b.drop 28).take (32 - 28))
  have e4 := getN_lt (b.drop 32)
  rw [show (((b.drop 16).take (28 - 16)).take 4).length = 4 by rw [List.length_take, h1]; rfl] at e1
  rw [show (((b.drop 16).take (28 - 16)).drop 4).length = 8 by rw [List.length_drop, h1]] at e2
  rw [show ((b.drop 28).take (32 - 28)).length = 4 by rw [List.length_take, List.length_drop]; omega] at e3
  rw [show (b.drop 32).length = 4 by rw [List.length_drop]; omega] at e4
  refine ⟨by simp only [useP, byI_len, List.length_take]; omega, fun z hz => ?_, ?_, ?_, ?_, ?_⟩
  · obtain ⟨c, _, rfl⟩ := List.mem_map.1 hz
    have := c.toNat_lt
    omega
  all_goals simp only [useP]; omega
theorem row_useP {u : LUse} (h : OkU u) : useP (rowL u) = u := by
  have hs := h.shard; have hc := h.ctr; have hf := h.fst; have hl := h.lst
  have hk : (keyB u.key).length = 16 := by rw [keyB_len, h.key]
  have n1 : (nonB u.range.nonce.shard.toNat u.range.nonce.counter.toNat).length = 12 := nonB_len _ _
  have l4 : ∀ v, (putN 4 v).length = 4 := putN_len 4
  have l8 : ∀ v, (putN 8 v).length = 8 := putN_len 8
  have d16 : (rowL u).drop 16 = nonB u.range.nonce.shard.toNat u.range.nonce.counter.toNat ++ (putN 4 u.range.first.toNat ++ putN 4 u.range.last.toNat) := by
    rw [rowL, useB, ← hk, List.drop_left]
  have t16 : (rowL u).take 16 = keyB u.key := by rw [rowL, useB, ← hk, List.take_left]
  have t12 : ((rowL u).drop 16).take (28 - 16) = nonB u.range.nonce.shard.toNat u.range.nonce.counter.toNat := by
    rw [d16, show 28 - 16 = (nonB u.range.nonce.shard.toNat u.range.nonce.counter.toNat).length by rw [n1], List.take_left]
  have d28 : (rowL u).drop 28 = putN 4 u.range.first.toNat ++ putN 4 u.range.last.toNat := by
    have : (rowL u).drop 28 = ((rowL u).drop 16).drop 12 := by rw [List.drop_drop]
    rw [this, d16, ← n1, List.drop_left]
  have t4 : ((rowL u).drop 28).take (32 - 28) = putN 4 u.range.first.toNat := by
    rw [d28, show 32 - 28 = (putN 4 u.range.first.toNat).length by rw [l4], List.take_left]
  have d32 : (rowL u).drop 32 = putN 4 u.range.last.toNat := by
    have : (rowL u).drop 32 = ((rowL u).drop 28).drop 4 := by rw [List.drop_drop]
    rw [this, d28]
    exact drop_of (l4 _)
  have m4 : (nonB u.range.nonce.shard.toNat u.range.nonce.counter.toNat).take 4 = putN 4 u.range.nonce.shard.toNat := by
    rw [nonB]
    exact take_of (l4 _)
  have m8 : (nonB u.range.nonce.shard.toNat u.range.nonce.counter.toNat).drop 4 = putN 8 u.range.nonce.counter.toNat := by
    rw [nonB]
    exact drop_of (l4 _)
  rw [useP, t12, t16, t4, d32, m4, m8, getN_putN 4 _ (by show _ < 4294967296; omega), getN_putN 8 _ (by show _ < 18446744073709551616; omega), getN_putN 4 _ (by show _ < 4294967296; omega), getN_putN 4 _ (by show _ < 4294967296; omega), byI_keyB _ h.byt,
    Int.toNat_of_nonneg hs.1, Int.toNat_of_nonneg hc.1, Int.toNat_of_nonneg hf.1, Int.toNat_of_nonneg hl.1]

/-! Digits -/
theorem ix_back : ∀ (l : List UInt8) (c : UInt8), 0 ≤ Lib.indexByte l c → l.getD (Lib.indexByte l c).toNat 0 = c
  | [], c, h => by simp [Lib.indexByte] at h
  | b :: l, c, h => by
    have ih := ix_back l c
    unfold Lib.indexByte at h ⊢
    split
    · rename_i hb
      simpa using hb
    · rename_i hb
      rw [if_neg hb] at h
      split
      · rename_i h1
        rw [if_pos h1] at h
        omega
      · rename_i h1
        rw [if_neg h1] at h
        have h2 : Lib.indexByte l c ≠ -1 := by simpa using h1
        have h3 := Lib.indexByte_ge l c
        have h4 : (Lib.indexByte l c + 1).toNat = (Lib.indexByte l c).toNat + 1 := by omega
        rw [h4, List.getD_cons_succ]
        exact ih (by omega)
theorem hexC_back {c : UInt8} (h : 0 ≤ Lib.indexByte hexD c) : hexC (Lib.indexByte hexD c).toNat = c := ix_back hexD c h
theorem hexC_hex : ∀ n, n < 16 → 0 ≤ Lib.indexByte hexD (hexC n) ∧ hexC n ≠ 10 := by decide
theorem range_pairs {α : Type} (g : Nat → α) : ∀ n, (List.range n).flatMap (fun j => [g (2 * j), g (2 * j + 1)]) = (List.range (2 * n)).map g
  | 0 => rfl
  | n + 1 => by
    rw [List.range_succ, List.flatMap_append, range_pairs g n, show 2 * (n + 1) = 2 * n + 1 + 1 by omega, List.range_succ, List.range_succ]
    simp
theorem list_range (t : List UInt8) : t = (List.range t.length).map fun k => t.getD k 0 := by
  apply List.ext_getElem?
  intro k
  by_cases hk : k < t.length
  · simp [hk, List.getD_eq_getElem?_getD]
  · rw [List.getElem?_eq_none (by omega), List.getElem?_eq_none (by simp; omega)]
theorem okHex_at {t : List UInt8} (h : okHex t = true) {k : Nat} (hk : k < t.length) : hexC (nib t k) = t.getD k 0 := by
  have hm : t.getD k 0 ∈ t := by
    rw [List.getD_eq_getElem?_getD, List.getElem?_eq_getElem hk]
    exact List.getElem_mem hk
  have := List.all_eq_true.1 h _ hm
  exact hexC_back (of_decide_eq_true this)
theorem unhex_hex {t : List UInt8} (hl : t.length = 72) (h : okHex t = true) : (unhex t).flatMap hexB = t := by
  have h1 : (unhex t).flatMap hexB = (List.range 36).flatMap (fun j => [t.getD (2 * j) 0, t.getD (2 * j + 1) 0]) := by
    rw [unhex, List.flatMap_map]
    rw [List.flatMap_def, List.flatMap_def]
    congr 1
    apply List.map_congr_left
    intro j hj
    have hj := List.mem_range.1 hj
    have n1 := nib_lt t (2 * j)
    have n2 := nib_lt t (2 * j + 1)
    rw [← okHex_at h (by omega), ← okHex_at h (by omega)]
    simp only [hexB, Nat.toUInt8_eq, UInt8.toNat_ofNat']
    rw [Nat.mod_eq_of_lt (by omega), show (16 * nib t (2 * j) + nib t (2 * j + 1)) / 16 = nib t (2 * j) by omega, show (16 * nib t (2 * j) + nib t (2 * j + 1)) % 16 = nib t (2 * j + 1) by omega]
  rw [h1, range_pairs (fun k => t.getD k 0) 36]
  conv => rhs; rw [list_range t, hl]
theorem hexB_inj {a b : UInt8} (h : hexB a = hexB b) : a = b := by
  have hc : ∀ m, m < 16 → ∀ n, n < 16 → hexC m = hexC n → m = n := by decide
  simp only [hexB, List.cons.injEq, and_true] at h
  have ha := a.toNat_lt
  have hb := b.toNat_lt
  have h1 := hc _ (by omega) _ (by omega) h.1
  have h2 := hc _ (by omega) _ (by omega) h.2
  apply UInt8.toNat_inj.1
  omega
theorem flat_inj : ∀ (x y : List UInt8), x.flatMap hexB = y.flatMap hexB → x = y
  | [], [], _ => rfl
  | [], b :: y, h => by simp [hexB] at h
  | a :: x, [], h => by simp [hexB] at h
  | a :: x, b :: y, h => by
    simp only [List.flatMap_cons] at h
    have hl : (hexB a).length = (hexB b).length := rfl
    obtain ⟨h1, h2⟩ := List.append_inj h hl
    rw [hexB_inj h1, flat_inj x y h2]
theorem okHex_flat (x : List UInt8) : okHex (x.flatMap hexB) = true := by
  rw [okHex, List.all_eq_true]
  intro c hc
  obtain ⟨b, _, hb⟩ := List.mem_flatMap.1 hc
  have := b.toNat_lt
  simp only [hexB, List.mem_cons, List.not_mem_nil, or_false] at hb
  rcases hb with rfl | rfl
  · exact decide_eq_true (hexC_hex _ (by omega)).1
  · exact decide_eq_true (hexC_hex _ (by omega)).1
theorem hex_unhex {x : List UInt8} (h : x.length = 36) : unhex (x.flatMap hexB) = x :=
  flat_inj _ _ (unhex_hex (by rw [hexB_len, h]) (okHex_flat x))
theorem no10 (x : List UInt8) : (10 : UInt8) ∉ x.flatMap hexB := fun hc => by
  obtain ⟨b, _, hb⟩ := List.mem_flatMap.1 hc
  have := b.toNat_lt
  simp only [hexB, List.mem_cons, List.not_mem_nil, or_false] at hb
  rcases hb with hb | hb
  · exact (hexC_hex _ (by omega)).2 hb.symm
  · exact (hexC_hex _ (by omega)).2 hb.symm

/-! Lines -/
theorem cutL_no : ∀ {p q : List UInt8} {b : UInt8}, b ∉ p → cutL (p ++ b :: q) b = some (p, q)
  | [], q, b, _ => by simp [cutL]
  | a :: p, q, b, h => by
    have h1 : b ≠ a := fun e => h (by simp [e])
    have h2 : b ∉ p := fun e => h (by simp [e])
    have h3 : ¬ (a == b) = true := by simpa using Ne.symm h1
    simp only [List.cons_append, cutL]
    rw [if_neg h3, cutL_no h2]
    rfl
theorem cutL_notin : ∀ {l : List UInt8} {b : UInt8} {p q : List UInt8}, cutL l b = some (p, q) → b ∉ p
  | [], _, _, _, h => by cases h
  | a :: l, b, p, q, h => by
    unfold cutL at h
    split at h
    · cases h; simp
    · rename_i hab
      obtain ⟨⟨p', q'⟩, h1, h2⟩ := Option.map_eq_some_iff.1 h
      cases h2
      have := cutL_notin h1
      simp only [List.mem_cons, not_or]
      exact ⟨fun e => hab (by simp [e]), this⟩
theorem cutL_none_notin : ∀ {l : List UInt8} {b : UInt8}, cutL l b = none → b ∉ l
  | [], _, _ => by simp
  | a :: l, b, h => by
    unfold cutL at h
    split at h
    · cases h
    · rename_i hab
      have := cutL_none_notin (l := l) (b := b) (by simpa using h)
      simp only [List.mem_cons, not_or]
      exact ⟨fun e => hab (by simp [e]), this⟩
/-- A line that is a use's. -/
theorem good_line {t : List UInt8} (h : goodL t = true) : lineL (useP (unhex t)) = t ++ [10] := by
  simp only [goodL, Bool.and_eq_true, decide_eq_true_eq] at h
  rw [lineL, useP_row (unhex_len t), unhex_hex h.1 h.2]
theorem line_good {u : LUse} (h : OkU u) : goodL ((rowL u).flatMap hexB) = true ∧ useP (unhex ((rowL u).flatMap hexB)) = u := by
  refine ⟨?_, by rw [hex_unhex (rowL_len h), row_useP h]⟩
  simp only [goodL, Bool.and_eq_true, decide_eq_true_eq]
  exact ⟨by rw [hexB_len, rowL_len h], okHex_flat _⟩
/-- The text of uses is parsed as the uses. -/
theorem parseF_text : ∀ (m : List LUse) (post : List UInt8) (acc : List LUse), (∀ u ∈ m, OkU u ∧ validU u = true) → parseF (textL m ++ post) acc = parseF post (acc ++ m)
  | [], post, acc, _ => by simp [textL]
  | u :: m, post, acc, h => by
    obtain ⟨h1, h2⟩ := h u (by simp)
    obtain ⟨h3, h4⟩ := line_good h1
    have e : textL (u :: m) ++ post = (rowL u).flatMap hexB ++ 10 :: (textL m ++ post) := by simp [textL, lineL]
    rw [e, parseF_some acc (by simp) (cutL_no (no10 _)), if_neg (by rw [h3]; simp), h4, if_neg (by rw [h2]; simp), parseF_text m post _ fun v hv => h v (by simp [hv])]
    simp
/-- Where parsing stops with a fault. -/
def Stop (post : List UInt8) : Prop := post ≠ [] ∧ (cutL post 10 = none ∨ ∃ t r, cutL post 10 = some (t, r) ∧ (goodL t = false ∨ goodL t = true ∧ validU (useP (unhex t)) = false))
theorem parse_out : ∀ (n : Nat) (s : List UInt8), s.length ≤ n → ∃ m post, s = textL m ++ post ∧ (∀ u ∈ m, OkU u ∧ validU u = true) ∧ (post = [] ∨ Stop post)
  | 0, s, h => ⟨[], [], by simp [textL]; exact List.eq_nil_of_length_eq_zero (by omega), by simp, .inl rfl⟩
  | n + 1, s, h => by
    by_cases hs : s = []
    · exact ⟨[], [], by simp [textL, hs], by simp, .inl rfl⟩
    cases hc : cutL s 10 with
    | none => exact ⟨[], s, by simp [textL], by simp, .inr ⟨hs, .inl hc⟩⟩
    | some p =>
      obtain ⟨t, r⟩ := p
      obtain ⟨_, h2⟩ := cutL_some hc
      cases hg : goodL t with
      | false => exact ⟨[], s, by simp [textL], by simp, .inr ⟨hs, .inr ⟨t, r, hc, .inl hg⟩⟩⟩
      | true =>
        cases hv : validU (useP (unhex t)) with
        | false => exact ⟨[], s, by simp [textL], by simp, .inr ⟨hs, .inr ⟨t, r, hc, .inr ⟨hg, hv⟩⟩⟩⟩
        | true =>
          obtain ⟨m, post, h3, h4, h5⟩ := parse_out n r (by rw [h2] at h; simp at h; omega)
          refine ⟨useP (unhex t) :: m, post, ?_, fun u hu => ?_, h5⟩
          · have := good_line hg
            rw [h2, h3]
            simp only [textL, List.flatMap_cons, this]
            simp
          · rcases List.mem_cons.1 hu with rfl | hu
            · exact ⟨useP_ok (unhex_len t), hv⟩
            · exact h4 u hu
end Go.Proofs.Ytjpjchohpjbknaa

/- Plain law: where parsing stops. -/
set_option linter.unusedSimpArgs false
set_option linter.unusedVariables false
set_option maxRecDepth 50000
namespace Go.Proofs.Ytjpjchohpjbknaa
open Go.Eng
theorem flat_drop : ∀ (k : Nat) (l : List UInt8), (l.flatMap hexB).drop (2 * k) = (l.drop k).flatMap hexB
  | 0, l => by simp
  | k + 1, [] => by simp
  | k + 1, b :: l => by
    have h := flat_drop k l
    rw [show 2 * (k + 1) = 2 * k + 1 + 1 by omega]
    simp only [List.flatMap_cons, hexB, List.cons_append, List.nil_append, List.drop_succ_cons]
    exact h
theorem flat_take : ∀ (k : Nat) (l : List UInt8), (l.flatMap hexB).take (2 * k) = (l.take k).flatMap hexB
  | 0, l => by simp
  | k + 1, [] => by simp
  | k + 1, b :: l => by
    have h := flat_take k l
    rw [show 2 * (k + 1) = 2 * k + 1 + 1 by omega]
    simp only [List.flatMap_cons, hexB, List.cons_append, List.nil_append, List.take_succ_cons, h]
/-- Digits are ordered as the numbers. -/
theorem hex_less : ∀ m, m < 16 → ∀ n, n < 16 → ((hexC m < hexC n) ↔ m < n) ∧ ((hexC m == hexC n) = true ↔ m = n) := by decide
theorem less_cons (a b : UInt8) (x y : List UInt8) : Op.bytesLess (hexB a ++ x) (hexB b ++ y) = (decide (a.toNat < b.toNat) || (decide (a.toNat = b.toNat) && Op.bytesLess x y)) := by
  have ha := a.toNat_lt
  have hb := b.toNat_lt
  obtain ⟨h1, h2⟩ := hex_less (a.toNat / 16) (by omega) (b.toNat / 16) (by omega)
  obtain ⟨h3, h4⟩ := hex_less (a.toNat % 16) (by omega) (b.toNat % 16) (by omega)
  simp only [hexB, List.cons_append, List.nil_append, Op.bytesLess]
  rw [Bool.eq_iff_iff]
  simp only [Bool.or_eq_true, Bool.and_eq_true, decide_eq_true_eq]
  rw [h1, h2, h3, h4]
  constructor
  · rintro (h | ⟨h, h' | ⟨h', h''⟩⟩)
    · left; omega
    · left; omega
    · right; exact ⟨by omega, h''⟩
  · rintro (h | ⟨h, h'⟩)
    · by_cases e : a.toNat / 16 = b.toNat / 16
      · right; exact ⟨e, .inl (by omega)⟩
      · left; omega
    · right; exact ⟨by omega, .inr ⟨by omega, h'⟩⟩
theorem less_num : ∀ (x y : List UInt8), x.length = y.length → Op.bytesLess (x.flatMap hexB) (y.flatMap hexB) = decide (getN x < getN y)
  | [], [], _ => rfl
  | a :: x, b :: y, h => by
    have hl : x.length = y.length := by simpa using h
    have ih := less_num x y hl
    have hx := getN_lt x
    have hy := getN_lt y
    simp only [List.flatMap_cons]
    rw [less_cons, ih, getN_cons, getN_cons, hl]
    rw [hl] at hx
    have hp : 0 < 256 ^ y.length := Nat.pow_pos (by decide)
    rw [Bool.eq_iff_iff]
    simp only [Bool.or_eq_true, Bool.and_eq_true, decide_eq_true_eq]
    constructor
    · rintro (h | ⟨h, h'⟩)
      · have : (a.toNat + 1) * 256 ^ y.length ≤ b.toNat * 256 ^ y.length := Nat.mul_le_mul_right _ h
        rw [Nat.add_mul] at this
        omega
      · rw [h]; omega
    · intro h
      rcases Nat.lt_trichotomy a.toNat b.toNat with g | g | g
      · exact .inl g
      · refine .inr ⟨g, ?_⟩
        rw [g] at h; omega
      · have : (b.toNat + 1) * 256 ^ y.length ≤ a.toNat * 256 ^ y.length := Nat.mul_le_mul_right _ g
        rw [Nat.add_mul] at this
        omega
  | [], _ :: _, h => by simp at h
  | _ :: _, [], h => by simp at h
/-- A line whose range is none. -/
theorem stop_arg {t : List UInt8} (hg : goodL t = true) (hv : validU (useP (unhex t)) = false) : (!(Op.bytesLess ((t.drop 56).take (64 - 56)) ((t.drop 64).take (72 - 64)) || ((t.drop 56).take (64 - 56)) == ((t.drop 64).take (72 - 64)))) = true := by
  simp only [goodL, Bool.and_eq_true, decide_eq_true_eq] at hg
  have hx := unhex_hex hg.1 hg.2
  have hl := unhex_len t
  have e1 : (t.drop 56).take (64 - 56) = (((unhex t).drop 28).take (32 - 28)).flatMap hexB := by
    conv => lhs; rw [← hx]
    rw [show 56 = 2 * 28 from rfl, flat_drop, show 64 - 2 * 28 = 2 * 4 from rfl, flat_take]
  have e2 : (t.drop 64).take (72 - 64) = ((unhex t).drop 32).flatMap hexB := by
    conv => lhs; rw [← hx]
    rw [show 64 = 2 * 32 from rfl, flat_drop, show 72 - 2 * 32 = 2 * 4 from rfl, flat_take, List.take_of_length_le (by rw [List.length_drop]; omega)]
  have hlt : getN ((unhex t).drop 32) < getN (((unhex t).drop 28).take (32 - 28)) := by
    have hv := of_decide_eq_false hv
    simp only [useP] at hv
    omega
  have hll : (((unhex t).drop 28).take (32 - 28)).length = ((unhex t).drop 32).length := by rw [List.length_take, List.length_drop, List.length_drop]; omega
  rw [e1, e2, less_num _ _ hll]
  rw [Bool.not_eq_true', Bool.or_eq_false_iff]
  refine ⟨decide_eq_false (by omega), ?_⟩
  rw [beq_eq_false_iff_ne]
  intro e
  rw [flat_inj _ _ e] at hlt
  omega
/-- A line that is no use's. -/
theorem stop_form {post : List UInt8} (h : cutL post 10 = none ∨ ∃ t r, cutL post 10 = some (t, r) ∧ goodL t = false) : post.length < 73 ∨ okHex (post.take 72) = false ∨ ∃ c, post[72]? = some c ∧ c ≠ 10 := by
  by_cases hl : post.length < 73
  · exact .inl hl
  right
  have hc : ∃ c, post[72]? = some c := ⟨_, List.getElem?_eq_getElem (by omega)⟩
  obtain ⟨c, hc⟩ := hc
  rcases h with h | ⟨t, r, h1, h2⟩
  · right
    refine ⟨c, hc, fun e => ?_⟩
    subst e
    exact cutL_none_notin h (List.mem_of_getElem? hc)
  · obtain ⟨_, h3⟩ := cutL_some h1
    have h4 := cutL_notin h1
    rcases Nat.lt_trichotomy t.length 72 with g | g | g
    · left
      rw [okHex, List.all_eq_false]
      refine ⟨10, ?_, by decide⟩
      have : (post.take 72)[t.length]? = some 10 := by
        rw [List.getElem?_take, if_pos g, h3, List.getElem?_append_right (Nat.le_refl _), Nat.sub_self]
        rfl
      exact List.mem_of_getElem? this
    · left
      have : post.take 72 = t := by rw [h3]; exact take_of g
      rw [this]
      cases ho : okHex t with
      | false => rfl
      | true => simp [goodL, g, ho] at h2
    · right
      refine ⟨c, hc, fun e => ?_⟩
      subst e
      rw [h3, List.getElem?_append_left g] at hc
      exact h4 (List.mem_of_getElem? hc)
/-- The digits, by their ranges. -/
theorem dig_range : ∀ n : Nat, n < 256 → decide (0 ≤ Lib.indexByte hexD (n.toUInt8)) = !((decide ((n : Int) < 48) || decide ((57 : Int) < n)) && (decide ((n : Int) < 97) || decide ((102 : Int) < n))) := by decide
theorem dig_at (c : UInt8) : decide (0 ≤ Lib.indexByte hexD c) = !((decide ((c.toNat : Int) < 48) || decide ((57 : Int) < c.toNat)) && (decide ((c.toNat : Int) < 97) || decide ((102 : Int) < c.toNat))) := by
  have := dig_range c.toNat c.toNat_lt
  simpa using this
end Go.Proofs.Ytjpjchohpjbknaa
