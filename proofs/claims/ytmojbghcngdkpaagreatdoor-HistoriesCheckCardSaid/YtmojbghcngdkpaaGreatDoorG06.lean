/- Texts of the proof: H12, HV, Eng88, Eng87, Eng89, H21, H17, H18, H19, H20, H22, H13, H23, H24, H27, H28, H29, H25, H26, H30, H31, H32, HW, H33, HO. -/
import Derived.Test.YtmojbghcngdkpaaGreatDoorG05
import Derived.Test.YtmojbghcngdkpaaGreatDoorG03
import Derived.Test.YtmojbghcngdkpaaGreatDoorG04
import Derived.Test.YtmojbghcngdkpaaGreatDoorG02
import Derived.Maps.RangeRun

set_option linter.unusedVariables false
set_option linter.unusedSimpArgs false
set_option linter.unusedSectionVars false

namespace Go.Proofs.YtmojbghcngdkpaaGreatDoor
open Go.Eng Go.Plain
set_option maxHeartbeats 8000000
set_option maxRecDepth 20000
attribute [local irreducible] WC RegS RegD SeqQ BlkQ ScoQ RegK CutK Sat SatN FnIs LoopQ StepIs OpIs
theorem trimp_is {l p : List UInt8} : FnIs Tryz.prog 137 [.d (strD l), .d (strD p)] [] (.d (strD (Lib.trimPrefix l p))) [] :=
  .of_calls1 rfl ⟨_, Tryz.func137, by kernel_rfl, by kernel_rfl⟩ fun σ w X vs ha hg => by
    rw [ha.two]
    refine (Tryz.strings_TrimPrefix (mkS l) (mkS p) w).mono ?_
    rintro e w' ⟨rfl, rfl⟩
    exact ⟨by rw [mkS_data, mkS_data]; rfl, Go.RowKit.Below.refl _ _⟩
theorem trims_is {l p : List UInt8} (hl : l.length ≤ 9223372036854775807) : FnIs Tryz.prog 136 [.d (strD l), .d (strD p)] [] (.d (strD (Lib.trimSuffix l p))) [] :=
  .of_calls1 rfl ⟨_, Tryz.func136, by kernel_rfl, by kernel_rfl⟩ fun σ w X vs ha hg => by
    rw [ha.two]
    refine (Tryz.strings_TrimSuffix (mkS l) (mkS p) w (by rw [mkS_size]; exact hl)).mono ?_
    rintro e w' ⟨rfl, rfl⟩
    exact ⟨by rw [mkS_data, mkS_data]; rfl, Go.RowKit.Below.refl _ _⟩
theorem trim_pre (p s : List UInt8) : Lib.trimPrefix (p ++ s) p = s := by
  rw [Lib.trimPrefix, Lib.hasPrefix, if_pos (by rw [List.isPrefixOf_iff_prefix]; exact List.prefix_append _ _), List.drop_left]
theorem trim_suf (s q : List UInt8) : Lib.trimSuffix (s ++ q) q = s := by
  rw [Lib.trimSuffix, Lib.hasSuffix, if_pos (by rw [List.isSuffixOf_iff_suffix]; exact List.suffix_append _ _)]
  simp
def sOk : List UInt8 := [111, 107]
def sArg : List UInt8 := [97, 114, 103]
def sNonce : List UInt8 := [110, 111, 110, 99, 101]
def sInteg : List UInt8 := [105, 110, 116, 101, 103, 114, 105, 116, 121]
def wordsL : List (Int × AV) := [(0, .d (strD sOk)), (1, .d (strD sArg)), (8, .d (strD sNonce)), (9, .d (strD sInteg))]
theorem key_err : KeyTy Tryz.prog 27 i6 1 := keyTy_int Tryz.underlying27 .i64
theorem words_is : FnIs Tryz.prog 111 [] [] (.mapr 64) [(64, .mo (mapC i6 wordsL))] := by
  refine fnIs_of tab_ok Tryz.func111 rfl rfl rfl ?_;refine sR ?_;refine rC ?_;refine nR ?_;refine reg_new (make_map) rfl ?_;refine reg_do rfl (insert_new (κ := Int) (enc := i6) (l := wordsL.take 0) (k := 0) (v := .d (strD sOk)) key_err Tryz.underlying173 rfl rfl rfl rfl rfl) rfl rfl ?_
  refine reg_do rfl (insert_new (κ := Int) (enc := i6) (l := wordsL.take 1) (k := 1) (v := .d (strD sArg)) key_err Tryz.underlying173 rfl rfl rfl rfl rfl) rfl rfl ?_
  refine reg_do rfl (insert_new (κ := Int) (enc := i6) (l := wordsL.take 2) (k := 8) (v := .d (strD sNonce)) key_err Tryz.underlying173 rfl rfl rfl rfl rfl) rfl rfl ?_
  refine reg_do rfl (insert_new (κ := Int) (enc := i6) (l := wordsL.take 3) (k := 9) (v := .d (strD sInteg)) key_err Tryz.underlying173 rfl rfl rfl rfl rfl) rfl rfl ?_
  iterate 2 refine rC ?_
  refine nS ?_;refine wc_ret ?_
  exact ⟨trivial, [(64, some _)], .of rfl rfl rfl rfl rfl ⟨⟨_, rfl, AVLe.of_eq rfl⟩, rfl, trivial⟩ ⟨⟨rfl, rfl, _, rfl, .refl _⟩, trivial⟩⟩
theorem hhex_is (l : List UInt8) (hl32 : l.length = 32) : FnIs Tryz.prog 110 [.d (encBk l)] [] (.d (strD (hexP l))) [] := by
  have hne : l ≠ [] := fun e => by rw [e] at hl32; cases hl32
  have hL : l.length ≤ 524288 := by omega
  have hbl : (byI l).length = l.length := byI_len l
  refine fnIs_of tab_ok Tryz.func110 rfl rfl rfl ?_;refine sR ?_;refine rN ?_;refine rC ?_;refine nR ?_;refine rN ?_;refine nQ ?_;refine sR ?_;refine rQ iM ?_;refine rC ?_
  refine nS ?_;refine wc_block ?_
  refine wc_inv (fun i : Nat => ⟨[(7, .int .i64 i), (6, .d (encBk l)), (3, .ptr 65 [])], [(65, some (bldRow (Nat.beq i 0) 65 66 (2 * i))), (66, some (rowT ((l.take i).flatMap hexB)))], 72, Tryz.f110.ntmps, 64⟩) (fun i => i ≤ l.length) (fun i => l.length - i) 0 [(65, some _), (66, none)] (Nat.zero_le _)
    (.of rfl rfl rfl rfl rfl ⟨⟨_, rfl, .refl _⟩, rfl, ⟨_, rfl, .refl _⟩, rfl, ⟨_, rfl, .refl _⟩, rfl, trivial⟩ ⟨⟨rfl, rfl, _, rfl, RowLe.split2⟩, ⟨rfl, rfl, rfl⟩, trivial⟩) ?_
  intro i hi
  refine wc_of ?_;refine sR ?_;refine rC ?_;refine nQ ?_
  refine wc_cond rfl (fun h3 => ?_) (fun h3 => ?_)
  · have hlt : i < l.length := by have := of_decide_eq_true h3; omega
    obtain ⟨b, hb⟩ : ∃ b, l[i]? = some b := ⟨_, List.getElem?_eq_getElem hlt⟩
    have hb' : (byI l)[((i : Int)).toNat]? = some (b.toNat : Int) := by rw [Int.toNat_natCast]; exact byI_get hb
    have hb8 : b.toNat < 256 := b.toNat_lt
    have hw16 : IntKind.u8.wrap ((b.toNat / 16 : Nat) : Int) = ((b.toNat / 16 : Nat) : Int) := wrap_u8n (by omega)
    have hd1 := hexD_get (n := b.toNat / 16) (by omega)
    have hd2 := hexD_get (n := b.toNat % 16) (by omega)
    have hpl : ((l.take i).flatMap hexB).length = 2 * i := by rw [hexB_len, List.length_take, Nat.min_eq_left hi]
    have hp1 : 2 * i + 1 ≤ 1048576 := by omega
    have hpl2 : ((l.take i).flatMap hexB ++ [hexC (b.toNat / 16)]).length = 2 * i + 1 := by rw [List.length_append, hpl]; rfl
    have hp2 : 2 * i + 1 + 1 ≤ 1048576 := by omega
    have hgo := hex_take hb
    refine kS ?_;refine wc_seq ?_;refine wc_block ?_;refine sR ?_;refine rQ (index_vec tab_ok rfl rfl rfl rfl rfl (by omega) (by omega) ⟨rfl, _, hb', rfl⟩ rfl) ?_;refine rC ?_
    refine nR ?_;refine rC ?_;refine rQ (quo_nat (a := b.toNat) (b := 16) tab_ok rfl rfl rfl (by decide) hw16) ?_;refine rQ (index_s (l := hexD) (m := b.toNat / 16) tab_ok rfl rfl rfl hd1) ?_
    refine reg_do rfl (call_h [(0, some 65), (1, some 66)] (writebyte_is (Nat.beq i 0) ((l.take i).flatMap hexB) (hexC (b.toNat / 16)) (2 * i) hpl hp1) rfl rfl rfl (arg_ptr rfl rfl (arg_e arg_nil)) ⟨⟨rfl, (by cases Nat.beq i 0 <;> rfl), _, _, rfl, rfl, (by cases Nat.beq i 0 <;> exact .refl _)⟩, ⟨rfl, rfl, _, _, rfl, rfl, .refl _⟩, trivial⟩ rfl rfl (.inl rfl) rfl rfl) rfl rfl ?_
    refine nS ?_;refine wc_region ?_;refine rC ?_;refine rQ (rem_nat (a := b.toNat) (b := 16) tab_ok rfl rfl rfl (by decide)) ?_;refine rQ (index_s (l := hexD) (m := b.toNat % 16) tab_ok rfl rfl rfl hd2) ?_
    refine reg_do rfl (call_h [(0, some 65), (1, some _)] (writebyte_is false ((l.take i).flatMap hexB ++ [hexC (b.toNat / 16)]) (hexC (b.toNat % 16)) (2 * i + 1) hpl2 hp2) rfl rfl rfl (arg_ptr rfl rfl (arg_e arg_nil)) ⟨⟨rfl, rfl, _, _, rfl, rfl, .refl _⟩, ⟨rfl, rfl, _, _, rfl, rfl, .refl _⟩, trivial⟩ rfl rfl (.inl rfl) rfl rfl) rfl rfl ?_
    refine reg_nil ?_;refine blk_n ?_;refine seq_n ?_;refine wc_region ?_;refine rQ iD ?_;refine rC ?_;refine reg_nil ?_
    exact loop_n (i + 1) [(66, some _)] hlt (by omega) (.of rfl rfl rfl rfl rfl ⟨⟨_, rfl, .refl _⟩, rfl, ⟨_, rfl, .refl _⟩, rfl, ⟨_, rfl, .refl _⟩, rfl, trivial⟩ ⟨⟨rfl, rfl, _, rfl, .refl _⟩, ⟨rfl, rfl, _, rfl, RowLe.of_eq (congrArg rowT hgo)⟩, trivial⟩)
  · have he : i = l.length := by have := of_decide_eq_false h3; omega
    subst he
    have hnn : l.flatMap hexB ≠ [] := fun e => by have := hexB_len l; rw [e] at this; simp at this; omega
    have hp4 : 2 * l.length ≤ 1048576 := by omega
    have hbz : Nat.beq l.length 0 = false := by
      cases hz : Nat.beq l.length 0 with
      | false => rfl
      | true => have := Nat.eq_of_beq_eq_true hz; omega
    rw [hbz, List.take_length]
    refine wc_exit ?_;refine seq_x ?_;refine loop_x ?_;refine blk_x ?_;refine seq_n ?_;refine sR ?_;refine reg_new2 (call_h [(0, some 65), (1, some 66)] (bstring_is (l.flatMap hexB) (2 * l.length) (hexB_len l) hnn hp4) rfl rfl rfl (arg_ptr rfl rfl arg_nil) ⟨⟨rfl, rfl, _, _, rfl, rfl, .refl _⟩, ⟨rfl, rfl, _, _, rfl, rfl, .refl _⟩, trivial⟩ rfl rfl (.inl rfl) rfl rfl) rfl ?_
    refine rC ?_;refine nS ?_;refine wc_ret ?_
    rw [show hexP l = l.flatMap hexB from if_neg hne]
    exact ⟨trivial, [], lf⟩
theorem chk_one {o : POp} (hd : o.data.length ≤ 64) : chkP [[o]] = 0 := chkP_ok.2 ⟨by simp, fun p hp => by
  rw [List.mem_singleton.1 hp]
  simp [badP]; try omega⟩
theorem text_one (o : POp) : textP [[o]] = (sClient ++ [10]) ++ (lineP o ++ [10]) := by simp [textP, opsT]
theorem hop_is (o : POp) (hok : o.Ok) (hd : o.data.length ≤ 64) : FnIs Tryz.prog 109 [.d (encPOp o)] [] (.d (strD (lineP o))) [] := by
  have h0 := chk_one hd
  have ht := text_is [[o]] (bd_chk h0) (fun p hp q hq => by rw [List.mem_singleton.1 hp] at hq; rw [List.mem_singleton.1 hq]; exact hok)
  rw [h0, if_pos rfl, text_one] at ht
  have hp := trimp_is (l := (sClient ++ [10]) ++ (lineP o ++ [10])) (p := sClient ++ [10])
  rw [trim_pre] at hp
  have hs := trims_is (l := lineP o ++ [10]) (p := [10]) (by have := line_len hok; simp; omega)
  rw [trim_suf] at hs
  refine fnIs_of tab_ok Tryz.func109 rfl rfl rfl ?_;refine sR ?_;refine rN ?_;refine rC ?_;refine nR ?_;refine rQ iM ?_;refine rQ (StepIs.frozen (build_slice (s := 3) tab_ok rfl rfl rfl rfl rfl rfl rfl rfl) (Frz.lits1 (enc := encPOp) o rfl rfl)) ?_
  refine rQ (StepIs.frozen (build_slice (s := 1) tab_ok rfl rfl rfl rfl rfl rfl rfl rfl) (Frz.lits1 (enc := encP) [o] rfl rfl)) ?_;refine rQ (call_r ht rfl rfl (arg_e arg_nil) (.inl rfl) (fun _ => rfl)) ?_
  iterate 5 refine rC ?_
  refine nR ?_;refine rC ?_;refine rQ (call_r hp rfl rfl (arg_e (arg_e arg_nil)) (.inl rfl) (fun _ => rfl)) ?_;refine rQ (call_r hs rfl rfl (arg_e (arg_e arg_nil)) (.inl rfl) (fun _ => rfl)) ?_
  refine rC ?_;refine nS ?_;refine wc_ret ?_
  exact ⟨trivial, [], lf⟩
def sCrash : List UInt8 := [99, 114, 97, 115, 104]
def sInvoke : List UInt8 := [105, 110, 118, 111, 107, 101]
def sReturn : List UInt8 := [114, 101, 116, 117, 114, 110]
def wordE (e : Int) : List UInt8 := if e = 0 then sOk else if e = 1 then sArg else if e = 8 then sNonce else if e = 9 then sInteg else []
def lineE (x : HEv) : List UInt8 := if x.kind = 3 then sCrash else if x.kind = 1 then (sInvoke ++ [32]) ++ Lib.itoa x.client ++ [32] ++ lineP x.op else if x.value = zBk then (sReturn ++ [32]) ++ Lib.itoa x.client ++ [32] ++ wordE x.err else (sReturn ++ [32]) ++ Lib.itoa x.client ++ [32, 111, 107, 32] ++ hexP x.value
theorem zero_str : ZeroIs Tryz.prog 9 (strD []) := zero_of (by kernel_rfl) rfl
theorem find_word (e : Int) : findC e wordsL 0 = (if e = 0 then some (0, .d (strD sOk)) else if e = 1 then some (1, .d (strD sArg)) else if e = 8 then some (2, .d (strD sNonce)) else if e = 9 then some (3, .d (strD sInteg)) else none) := by
  simp only [wordsL, findC]
theorem hline_is (x : HEv) (hok : x.Ok) (hd : x.op.data.length ≤ 64) : FnIs Tryz.prog 62 [.d (encEv x)] [] (.d (strD (lineE x))) [] := by
  have hil := itoa_len hok.client.1 hok.client.2
  have hll := line_len hok.op
  have hhl := hexP_len x.value
  rw [hok.value] at hhl
  refine fnIs_of tab_ok Tryz.func62 rfl rfl rfl ?_
  unfold lineE
  by_cases k3 : x.kind = 3
  · have d3 : decide (x.kind = 3) = true := decide_eq_true k3
    rw [if_pos k3]
    refine sR ?_;refine rN ?_;refine rC ?_;refine nR ?_;refine rC ?_;refine rQ iB ?_;refine rQ (call_r (itoa_is hok.client.1 hok.client.2) rfl rfl (arg_e arg_nil) (.inl rfl) (fun _ => rfl)) ?_
    refine rC ?_;refine nQ ?_;refine wc_block ?_;refine sR ?_;refine rC ?_;refine rQ iB ?_;iterate 2 refine rC ?_
    refine nS ?_;refine wT ?_;refine sR ?_;refine rC ?_;refine nS ?_;refine wc_ret ?_;refine blk_r ?_;refine seq_r ?_
    exact ⟨trivial, [], lf⟩
  · have d3 : decide (x.kind = 3) = false := decide_eq_false k3
    rw [if_neg k3]
    by_cases k1 : x.kind = 1
    · have d1 : decide (x.kind = 1) = true := decide_eq_true k1
      rw [if_pos k1]
      refine sR ?_;refine rN ?_;refine rC ?_;refine nR ?_;refine rC ?_;refine rQ iB ?_;refine rQ (call_r (itoa_is hok.client.1 hok.client.2) rfl rfl (arg_e arg_nil) (.inl rfl) (fun _ => rfl)) ?_
      refine rC ?_;refine nQ ?_;refine wc_block ?_;refine sR ?_;refine rC ?_;refine rQ iB ?_;iterate 2 refine rC ?_
      refine nS ?_;refine wF ?_;refine sR ?_;refine rC ?_;refine rQ iB ?_;iterate 2 refine rC ?_
      refine nS ?_;refine wT ?_;refine sR ?_;refine rC ?_
      refine rQ (add_str (a := sInvoke ++ [32]) (b := Lib.itoa x.client) rfl rfl (by simp [sInvoke]; omega) rfl) ?_
      refine rQ (add_str (a := sInvoke ++ [32] ++ Lib.itoa x.client) (b := [32]) rfl rfl (by simp [sInvoke]; omega) rfl) ?_
      refine rC ?_;refine rQ iB ?_;refine rQ (call_r (hop_is x.op hok.op hd) rfl rfl (arg_e arg_nil) (.inl rfl) (fun _ => rfl)) ?_
      refine rQ (add_str (a := sInvoke ++ [32] ++ Lib.itoa x.client ++ [32]) (b := lineP x.op) rfl rfl (by simp [sInvoke]; omega) rfl) ?_
      refine rC ?_;refine nS ?_;refine wc_ret ?_;refine blk_r ?_;refine seq_r ?_
      exact ⟨trivial, [], lf⟩
    · have d1 : decide (x.kind = 1) = false := decide_eq_false k1
      rw [if_neg k1]
      by_cases hv : x.value = zBk
      · have v0 : (!decide (x.value = zBk)) = false := by rw [decide_eq_true hv]; rfl
        rw [if_pos hv]
        have hf := find_word x.err
        unfold wordE
        by_cases h0 : x.err = 0
        · rw [if_pos h0] at hf ⊢
          obtain ⟨W, hW⟩ : ∃ W, W = sOk := ⟨_, rfl⟩
          have hWl : W.length ≤ 20 := by rw [hW]; decide
          rw [← hW] at hf ⊢
          refine sR ?_;refine rN ?_;refine rC ?_;refine nR ?_;refine rC ?_;refine rQ iB ?_;refine rQ (call_r (itoa_is hok.client.1 hok.client.2) rfl rfl (arg_e arg_nil) (.inl rfl) (fun _ => rfl)) ?_
          refine rC ?_;refine nQ ?_;refine wc_block ?_;refine sR ?_;refine rC ?_;refine rQ iB ?_;iterate 2 refine rC ?_
          refine nS ?_;refine wF ?_;refine sR ?_;refine rC ?_;refine rQ iB ?_;iterate 2 refine rC ?_
          refine nS ?_;refine wF ?_;refine sR ?_;refine rC ?_;refine rQ iB ?_;refine rQ (build_array tab_ok rfl rfl rfl) ?_;refine rQ (neq_data rfl rfl rfl rfl (by kernel_rfl) (by decide) (block_eq x.value zBk)) ?_
          refine rC ?_;refine nS ?_;refine wF ?_;refine wc_skip ?_;refine blk_n ?_;refine seq_n ?_;refine wc_seq ?_;refine wc_draw (by kernel_rfl) ?_;refine dC [3] [] ?_
          refine dQ [34] [] (add_str (a := sReturn ++ [32]) (b := Lib.itoa x.client) rfl rfl (by simp [sReturn]; omega) rfl) ?_
          refine dQ [35] [] (add_str (a := sReturn ++ [32] ++ Lib.itoa x.client) (b := [32]) rfl rfl (by simp [sReturn]; omega) rfl) ?_
          refine dreg_w [] [] rfl (call_h [] words_is rfl rfl rfl arg_nil trivial rfl rfl (.inl rfl) rfl rfl) ?_;refine dC [1] [] ?_;refine dQ [38] [64] iB ?_;refine dQ [37, 39] [240] (lookup_some (κ := Int) (enc := i6) (l := wordsL) (k := x.err) key_err Tryz.underlying173 rfl rfl rfl hf) ?_
          refine dQ [36, 40] [] (add_str (a := sReturn ++ [32] ++ Lib.itoa x.client ++ [32]) (b := W) rfl rfl (by simp [sReturn]; omega) rfl) ?_
          refine dC [41] [] ?_;refine dreg_end (by kernel_rfl) ?_;refine seq_n ?_;refine wc_ret ?_
          exact ⟨trivial, [], lf⟩
        · rw [if_neg h0] at hf ⊢
          by_cases h1 : x.err = 1
          · rw [if_pos h1] at hf ⊢
            obtain ⟨W, hW⟩ : ∃ W, W = sArg := ⟨_, rfl⟩
            have hWl : W.length ≤ 20 := by rw [hW]; decide
            rw [← hW] at hf ⊢
            refine sR ?_;refine rN ?_;refine rC ?_;refine nR ?_;refine rC ?_;refine rQ iB ?_;refine rQ (call_r (itoa_is hok.client.1 hok.client.2) rfl rfl (arg_e arg_nil) (.inl rfl) (fun _ => rfl)) ?_
            refine rC ?_;refine nQ ?_;refine wc_block ?_;refine sR ?_;refine rC ?_;refine rQ iB ?_;iterate 2 refine rC ?_
            refine nS ?_;refine wF ?_;refine sR ?_;refine rC ?_;refine rQ iB ?_;iterate 2 refine rC ?_
            refine nS ?_;refine wF ?_;refine sR ?_;refine rC ?_;refine rQ iB ?_;refine rQ (build_array tab_ok rfl rfl rfl) ?_;refine rQ (neq_data rfl rfl rfl rfl (by kernel_rfl) (by decide) (block_eq x.value zBk)) ?_
            refine rC ?_;refine nS ?_;refine wF ?_;refine wc_skip ?_;refine blk_n ?_;refine seq_n ?_;refine wc_seq ?_;refine wc_draw (by kernel_rfl) ?_;refine dC [3] [] ?_
            refine dQ [34] [] (add_str (a := sReturn ++ [32]) (b := Lib.itoa x.client) rfl rfl (by simp [sReturn]; omega) rfl) ?_
            refine dQ [35] [] (add_str (a := sReturn ++ [32] ++ Lib.itoa x.client) (b := [32]) rfl rfl (by simp [sReturn]; omega) rfl) ?_
            refine dreg_w [] [] rfl (call_h [] words_is rfl rfl rfl arg_nil trivial rfl rfl (.inl rfl) rfl rfl) ?_;refine dC [1] [] ?_;refine dQ [38] [64] iB ?_;refine dQ [37, 39] [240] (lookup_some (κ := Int) (enc := i6) (l := wordsL) (k := x.err) key_err Tryz.underlying173 rfl rfl rfl hf) ?_
            refine dQ [36, 40] [] (add_str (a := sReturn ++ [32] ++ Lib.itoa x.client ++ [32]) (b := W) rfl rfl (by simp [sReturn]; omega) rfl) ?_
            refine dC [41] [] ?_;refine dreg_end (by kernel_rfl) ?_;refine seq_n ?_;refine wc_ret ?_
            exact ⟨trivial, [], lf⟩
          · rw [if_neg h1] at hf ⊢
            by_cases h8 : x.err = 8
            · rw [if_pos h8] at hf ⊢
              obtain ⟨W, hW⟩ : ∃ W, W = sNonce := ⟨_, rfl⟩
              have hWl : W.length ≤ 20 := by rw [hW]; decide
              rw [← hW] at hf ⊢
              refine sR ?_;refine rN ?_;refine rC ?_;refine nR ?_;refine rC ?_;refine rQ iB ?_;refine rQ (call_r (itoa_is hok.client.1 hok.client.2) rfl rfl (arg_e arg_nil) (.inl rfl) (fun _ => rfl)) ?_
              refine rC ?_;refine nQ ?_;refine wc_block ?_;refine sR ?_;refine rC ?_;refine rQ iB ?_;iterate 2 refine rC ?_
              refine nS ?_;refine wF ?_;refine sR ?_;refine rC ?_;refine rQ iB ?_;iterate 2 refine rC ?_
              refine nS ?_;refine wF ?_;refine sR ?_;refine rC ?_;refine rQ iB ?_;refine rQ (build_array tab_ok rfl rfl rfl) ?_;refine rQ (neq_data rfl rfl rfl rfl (by kernel_rfl) (by decide) (block_eq x.value zBk)) ?_
              refine rC ?_;refine nS ?_;refine wF ?_;refine wc_skip ?_;refine blk_n ?_;refine seq_n ?_;refine wc_seq ?_;refine wc_draw (by kernel_rfl) ?_;refine dC [3] [] ?_
              refine dQ [34] [] (add_str (a := sReturn ++ [32]) (b := Lib.itoa x.client) rfl rfl (by simp [sReturn]; omega) rfl) ?_
              refine dQ [35] [] (add_str (a := sReturn ++ [32] ++ Lib.itoa x.client) (b := [32]) rfl rfl (by simp [sReturn]; omega) rfl) ?_
              refine dreg_w [] [] rfl (call_h [] words_is rfl rfl rfl arg_nil trivial rfl rfl (.inl rfl) rfl rfl) ?_;refine dC [1] [] ?_;refine dQ [38] [64] iB ?_;refine dQ [37, 39] [240] (lookup_some (κ := Int) (enc := i6) (l := wordsL) (k := x.err) key_err Tryz.underlying173 rfl rfl rfl hf) ?_
              refine dQ [36, 40] [] (add_str (a := sReturn ++ [32] ++ Lib.itoa x.client ++ [32]) (b := W) rfl rfl (by simp [sReturn]; omega) rfl) ?_
              refine dC [41] [] ?_;refine dreg_end (by kernel_rfl) ?_;refine seq_n ?_;refine wc_ret ?_
              exact ⟨trivial, [], lf⟩
            · rw [if_neg h8] at hf ⊢
              by_cases h9 : x.err = 9
              · rw [if_pos h9] at hf ⊢
                obtain ⟨W, hW⟩ : ∃ W, W = sInteg := ⟨_, rfl⟩
                have hWl : W.length ≤ 20 := by rw [hW]; decide
                rw [← hW] at hf ⊢
                refine sR ?_;refine rN ?_;refine rC ?_;refine nR ?_;refine rC ?_;refine rQ iB ?_;refine rQ (call_r (itoa_is hok.client.1 hok.client.2) rfl rfl (arg_e arg_nil) (.inl rfl) (fun _ => rfl)) ?_
                refine rC ?_;refine nQ ?_;refine wc_block ?_;refine sR ?_;refine rC ?_;refine rQ iB ?_;iterate 2 refine rC ?_
                refine nS ?_;refine wF ?_;refine sR ?_;refine rC ?_;refine rQ iB ?_;iterate 2 refine rC ?_
                refine nS ?_;refine wF ?_;refine sR ?_;refine rC ?_;refine rQ iB ?_;refine rQ (build_array tab_ok rfl rfl rfl) ?_;refine rQ (neq_data rfl rfl rfl rfl (by kernel_rfl) (by decide) (block_eq x.value zBk)) ?_
                refine rC ?_;refine nS ?_;refine wF ?_;refine wc_skip ?_;refine blk_n ?_;refine seq_n ?_;refine wc_seq ?_;refine wc_draw (by kernel_rfl) ?_;refine dC [3] [] ?_
                refine dQ [34] [] (add_str (a := sReturn ++ [32]) (b := Lib.itoa x.client) rfl rfl (by simp [sReturn]; omega) rfl) ?_
                refine dQ [35] [] (add_str (a := sReturn ++ [32] ++ Lib.itoa x.client) (b := [32]) rfl rfl (by simp [sReturn]; omega) rfl) ?_
                refine dreg_w [] [] rfl (call_h [] words_is rfl rfl rfl arg_nil trivial rfl rfl (.inl rfl) rfl rfl) ?_;refine dC [1] [] ?_;refine dQ [38] [64] iB ?_;refine dQ [37, 39] [240] (lookup_some (κ := Int) (enc := i6) (l := wordsL) (k := x.err) key_err Tryz.underlying173 rfl rfl rfl hf) ?_
                refine dQ [36, 40] [] (add_str (a := sReturn ++ [32] ++ Lib.itoa x.client ++ [32]) (b := W) rfl rfl (by simp [sReturn]; omega) rfl) ?_
                refine dC [41] [] ?_;refine dreg_end (by kernel_rfl) ?_;refine seq_n ?_;refine wc_ret ?_
                exact ⟨trivial, [], lf⟩
              · rw [if_neg h9] at hf ⊢
                refine sR ?_;refine rN ?_;refine rC ?_;refine nR ?_;refine rC ?_;refine rQ iB ?_;refine rQ (call_r (itoa_is hok.client.1 hok.client.2) rfl rfl (arg_e arg_nil) (.inl rfl) (fun _ => rfl)) ?_
                refine rC ?_;refine nQ ?_;refine wc_block ?_;refine sR ?_;refine rC ?_;refine rQ iB ?_;iterate 2 refine rC ?_
                refine nS ?_;refine wF ?_;refine sR ?_;refine rC ?_;refine rQ iB ?_;iterate 2 refine rC ?_
                refine nS ?_;refine wF ?_;refine sR ?_;refine rC ?_;refine rQ iB ?_;refine rQ (build_array tab_ok rfl rfl rfl) ?_;refine rQ (neq_data rfl rfl rfl rfl (by kernel_rfl) (by decide) (block_eq x.value zBk)) ?_
                refine rC ?_;refine nS ?_;refine wF ?_;refine wc_skip ?_;refine blk_n ?_;refine seq_n ?_;refine wc_seq ?_;refine wc_draw (by kernel_rfl) ?_;refine dC [3] [] ?_
                refine dQ [34] [] (add_str (a := sReturn ++ [32]) (b := Lib.itoa x.client) rfl rfl (by simp [sReturn]; omega) rfl) ?_
                refine dQ [35] [] (add_str (a := sReturn ++ [32] ++ Lib.itoa x.client) (b := [32]) rfl rfl (by simp [sReturn]; omega) rfl) ?_
                refine dreg_w [] [] rfl (call_h [] words_is rfl rfl rfl arg_nil trivial rfl rfl (.inl rfl) rfl rfl) ?_;refine dC [1] [] ?_;refine dQ [38] [64] iB ?_;refine dQ [37, 39] [240] (lookup_none (κ := Int) (enc := i6) (l := wordsL) (k := x.err) key_err Tryz.underlying173 zero_str rfl rfl rfl hf) ?_
                refine dQ [36, 40] [] (add_str (a := sReturn ++ [32] ++ Lib.itoa x.client ++ [32]) (b := []) rfl rfl (by simp [sReturn]; omega) rfl) ?_
                refine dC [41] [] ?_;refine dreg_end (by kernel_rfl) ?_;refine seq_n ?_;refine wc_ret ?_
                exact ⟨trivial, [], lf⟩
      · have v0 : (!decide (x.value = zBk)) = true := by rw [decide_eq_false hv]; rfl
        rw [if_neg hv]
        refine sR ?_;refine rN ?_;refine rC ?_;refine nR ?_;refine rC ?_;refine rQ iB ?_;refine rQ (call_r (itoa_is hok.client.1 hok.client.2) rfl rfl (arg_e arg_nil) (.inl rfl) (fun _ => rfl)) ?_
        refine rC ?_;refine nQ ?_;refine wc_block ?_;refine sR ?_;refine rC ?_;refine rQ iB ?_;iterate 2 refine rC ?_
        refine nS ?_;refine wF ?_;refine sR ?_;refine rC ?_;refine rQ iB ?_;iterate 2 refine rC ?_
        refine nS ?_;refine wF ?_;refine sR ?_;refine rC ?_;refine rQ iB ?_;refine rQ (build_array tab_ok rfl rfl rfl) ?_;refine rQ (neq_data rfl rfl rfl rfl (by kernel_rfl) (by decide) (block_eq x.value zBk)) ?_
        refine rC ?_;refine nS ?_;refine wT ?_;refine sR ?_;refine rC ?_
        refine rQ (add_str (a := sReturn ++ [32]) (b := Lib.itoa x.client) rfl rfl (by simp [sReturn]; omega) rfl) ?_
        refine rQ (add_str (a := sReturn ++ [32] ++ Lib.itoa x.client) (b := [32, 111, 107, 32]) rfl rfl (by simp [sReturn]; omega) rfl) ?_
        refine rC ?_;refine rQ iB ?_;refine rQ (call_r (hhex_is x.value hok.value) rfl rfl (arg_e arg_nil) (.inl rfl) (fun _ => rfl)) ?_
        refine rQ (add_str (a := sReturn ++ [32] ++ Lib.itoa x.client ++ [32, 111, 107, 32]) (b := hexP x.value) rfl rfl (by simp [sReturn]; omega) rfl) ?_
        refine rC ?_;refine nS ?_;refine wc_ret ?_;refine blk_r ?_;refine seq_r ?_
        exact ⟨trivial, [], lf⟩
end Go.Proofs.YtmojbghcngdkpaaGreatDoor

namespace Go.Proofs.YtmojbghcngdkpaaGreatDoor
open Go.Eng Go.Plain
def WfE (x : HEv) : Prop := -9223372036854775808 ≤ x.client ∧ x.client ≤ 9223372036854775807 ∧
  (x.kind = 3 ∧ x.client = 0 ∧ x.op = zOp ∧ x.value = zBk ∧ x.err = 0 ∨
   x.kind = 1 ∧ x.value = zBk ∧ x.err = 0 ∧ x.op.Ok ∧ x.op.data.length ≤ 64 ∨
   x.kind = 2 ∧ x.op = zOp ∧ kn4 x.err = true ∧ x.value.length = 32 ∧ (x.value ≠ zBk → x.err = 0))
def crashE : HEv := ⟨3, 0, zOp, zBk, 0⟩
theorem crashE_wf : WfE crashE := ⟨by decide, by decide, .inl ⟨rfl, rfl, rfl, rfl, rfl⟩⟩
theorem atoi_range {l : List UInt8} (h : atoiOk l = true) : -9223372036854775808 ≤ atoiV l ∧ atoiV l ≤ 9223372036854775807 := by
  unfold atoiOk at h
  unfold atoiV
  cases e : Lib.atoiAll l with
  | ok n => simp only; exact Lib.atoiAll_bounds e
  | _ => rw [e] at h; cases h
def keyOf (w : List UInt8) : Option Int := if w = sOk then some 0 else if w = sArg then some 1 else if w = sNonce then some 8 else if w = sInteg then some 9 else none
def blockP (s : List UInt8) : Option (List UInt8) := if s.length = 64 then pairsO s else none
def finE (s : List UInt8) (b : Bool) (x : HEv) : Option HEv := if b = true ∧ lineE x = s then some x else none
def evP (s : List UInt8) : Option HEv :=
  if s = sCrash then some crashE
  else if (cutA s 32).1 = sInvoke then
    match parseP (sClient ++ 10 :: ((cutA (cutA s 32).2.1 32).2.1 ++ [10])) [] 1 with
    | ([[o]], _, e) => if e = 0 then finE s (atoiOk (cutA (cutA s 32).2.1 32).1) ⟨1, atoiV (cutA (cutA s 32).2.1 32).1, o, zBk, 0⟩ else none
    | _ => none
  else if (cutA s 32).1 = sReturn then
    match keyOf (cutA (cutA (cutA s 32).2.1 32).2.1 32).1 with
    | none => none
    | some k => if (cutA (cutA (cutA s 32).2.1 32).2.1 32).2.2 = true then
        match blockP (cutA (cutA (cutA s 32).2.1 32).2.1 32).2.1 with
        | none => none
        | some v => finE s (atoiOk (cutA (cutA s 32).2.1 32).1) ⟨2, atoiV (cutA (cutA s 32).2.1 32).1, zOp, v, k⟩
      else finE s (atoiOk (cutA (cutA s 32).2.1 32).1) ⟨2, atoiV (cutA (cutA s 32).2.1 32).1, zOp, zBk, k⟩
  else none
theorem cutA_is {c : UInt8} {p : List UInt8} (q : List UInt8) (h : c ∉ p) : cutA (p ++ c :: q) c = (p, q, true) := by
  unfold cutA; rw [cutL_is q h]
theorem cutA_no {c : UInt8} {p : List UInt8} (h : c ∉ p) : cutA p c = (p, [], false) := by
  unfold cutA
  cases e : cutL p c with
  | none => rfl
  | some pq =>
    obtain ⟨p', q⟩ := pq
    have := (cutL_some e).1
    exact absurd (by rw [this]; simp) h
theorem itoa_no32 (n : Int) : (32 : UInt8) ∉ Lib.itoa n := fun h => (itoa_mem h).2 rfl
theorem keyOf_some {w : List UInt8} {k : Int} (h : keyOf w = some k) : kn4 k = true ∧ w = wordE k := by
  unfold keyOf at h
  by_cases h0 : w = sOk
  · rw [if_pos h0] at h; cases h; exact ⟨rfl, h0⟩
  · rw [if_neg h0] at h
    by_cases h1 : w = sArg
    · rw [if_pos h1] at h; cases h; exact ⟨rfl, h1⟩
    · rw [if_neg h1] at h
      by_cases h2 : w = sNonce
      · rw [if_pos h2] at h; cases h; exact ⟨rfl, h2⟩
      · rw [if_neg h2] at h
        by_cases h3 : w = sInteg
        · rw [if_pos h3] at h; cases h; exact ⟨rfl, h3⟩
        · rw [if_neg h3] at h; cases h
theorem kn4_out {e : Int} (h : kn4 e = true) : e = 0 ∨ e = 1 ∨ e = 8 ∨ e = 9 := by
  simp only [kn4, Bool.or_eq_true, decide_eq_true_eq] at h
  omega
theorem keyOf_word {e : Int} (h : kn4 e = true) : keyOf (wordE e) = some e := by
  rcases kn4_out h with rfl | rfl | rfl | rfl <;> decide
theorem word_no32 {e : Int} (h : kn4 e = true) : (32 : UInt8) ∉ wordE e := by
  rcases kn4_out h with rfl | rfl | rfl | rfl <;> decide
theorem hexP32 {v : List UInt8} (h : v.length = 32) : hexP v = v.flatMap hexB ∧ (hexP v).length = 64 := by
  have hne : v ≠ [] := fun e => by rw [e] at h; cases h
  have e : hexP v = v.flatMap hexB := by rw [hexP, if_neg hne]
  exact ⟨e, by rw [e, hexB_len, h]⟩
theorem block_hex {v : List UInt8} (h : v.length = 32) : blockP (hexP v) = some v := by
  obtain ⟨e, hl⟩ := hexP32 h
  rw [blockP, if_pos hl, e, pairs_hex]
theorem block_len {s v : List UInt8} (h : blockP s = some v) : v.length = 32 := by
  unfold blockP at h
  split at h
  · have := pairs_len s v h; omega
  · cases h
theorem line_inv (x : HEv) (h : x.kind = 1) : lineE x = sInvoke ++ 32 :: (Lib.itoa x.client ++ 32 :: lineP x.op) := by
  rw [lineE, if_neg (by omega), if_pos h]; simp
theorem line_ret0 (x : HEv) (h : x.kind = 2) (hv : x.value = zBk) : lineE x = sReturn ++ 32 :: (Lib.itoa x.client ++ 32 :: wordE x.err) := by
  rw [lineE, if_neg (by omega), if_neg (by omega), if_pos hv]; simp
theorem line_ret1 (x : HEv) (h : x.kind = 2) (hv : x.value ≠ zBk) : lineE x = sReturn ++ 32 :: (Lib.itoa x.client ++ 32 :: (sOk ++ 32 :: hexP x.value)) := by
  rw [lineE, if_neg (by omega), if_neg (by omega), if_neg hv]; simp [sOk]
theorem parse_line1 {o : POp} (ho : o.Ok) (hd : o.data.length ≤ 64) : parseP (sClient ++ 10 :: (lineP o ++ [10])) [] 1 = ([[o]], 0, 0) := by
  have := parse_back (l := [[o]]) (fun p hp q hq => by simp at hp; subst hp; simp at hq; subst hq; exact ho) (chk_one hd)
  rwa [text_one, show sClient ++ [10] ++ (lineP o ++ [10]) = sClient ++ 10 :: (lineP o ++ [10]) by simp] at this
theorem parse_line2 {o : POp} {t : List UInt8} {j : Nat} (h : parseP (sClient ++ 10 :: (t ++ [10])) [] 1 = ([[o]], j, 0)) : o.Ok ∧ o.data.length ≤ 64 ∧ lineP o = t := by
  obtain ⟨_, h2, h3, h4⟩ := parse_out _ _ [] [[o]] 1 j (Nat.le_refl _) (by decide) (fun p hp => by cases hp) h
  have ho : o.Ok := h4 [o] (by simp) o (by simp)
  refine ⟨ho, ?_, ?_⟩
  · have := (chkP_ok.1 h3).2 [o] (by simp)
    simpa [badP] using this
  · rw [text_one] at h2
    simpa [textP] using h2
theorem fin_some {s : List UInt8} {b : Bool} {x y : HEv} (h : finE s b x = some y) : b = true ∧ lineE x = s ∧ x = y := by
  unfold finE at h
  split at h
  · rename_i hc
    cases h
    exact ⟨hc.1, hc.2, rfl⟩
  · cases h
theorem evP_some {s : List UInt8} {x : HEv} (h : evP s = some x) : WfE x ∧ lineE x = s := by
  unfold evP at h
  by_cases hc : s = sCrash
  · rw [if_pos hc] at h; cases h
    exact ⟨crashE_wf, hc.symm⟩
  rw [if_neg hc] at h
  by_cases hi : (cutA s 32).1 = sInvoke
  · rw [if_pos hi] at h
    split at h
    · rename_i o j e hp
      split at h
      · rename_i he
        subst he
        obtain ⟨h1, h2, h3⟩ := parse_line2 hp
        obtain ⟨g1, g2, rfl⟩ := fin_some h
        obtain ⟨r1, r2⟩ := atoi_range g1
        exact ⟨⟨r1, r2, .inr (.inl ⟨rfl, rfl, rfl, h1, h2⟩)⟩, g2⟩
      · cases h
    · cases h
  rw [if_neg hi] at h
  by_cases hr : (cutA s 32).1 = sReturn
  · rw [if_pos hr] at h
    split at h
    · cases h
    · rename_i k hk
      obtain ⟨hk1, hk2⟩ := keyOf_some hk
      split at h
      · rename_i hm
        split at h
        · cases h
        · rename_i v hv
          obtain ⟨g1, g2, rfl⟩ := fin_some h
          obtain ⟨r1, r2⟩ := atoi_range g1
          refine ⟨⟨r1, r2, .inr (.inr ⟨rfl, rfl, hk1, block_len hv, fun hz => ?_⟩)⟩, g2⟩
          rw [line_ret1 _ rfl hz] at g2
          rw [← g2, cutA_is _ (by decide)] at hk2
          simp only at hk2
          rw [cutA_is _ (itoa_no32 _)] at hk2
          simp only at hk2
          rw [cutA_is _ (by decide)] at hk2
          simp only at hk2
          rcases kn4_out hk1 with rfl | rfl | rfl | rfl
          · rfl
          · exact absurd hk2 (by decide)
          · exact absurd hk2 (by decide)
          · exact absurd hk2 (by decide)
      · obtain ⟨g1, g2, rfl⟩ := fin_some h
        obtain ⟨r1, r2⟩ := atoi_range g1
        exact ⟨⟨r1, r2, .inr (.inr ⟨rfl, rfl, hk1, rfl, fun hz => absurd rfl hz⟩)⟩, g2⟩
  · rw [if_neg hr] at h; cases h
theorem atoi_back {n : Int} (h0 : -9223372036854775808 ≤ n) (h1 : n ≤ 9223372036854775807) : atoiOk (Lib.itoa n) = true ∧ atoiV (Lib.itoa n) = n := by
  unfold atoiOk atoiV; rw [atoi_itoa h0 h1]; exact ⟨rfl, rfl⟩
theorem evP_line {x : HEv} (h : WfE x) : evP (lineE x) = some x := by
  obtain ⟨kind, client, op, value, err⟩ := x
  obtain ⟨r1, r2, h⟩ := h
  obtain ⟨a1, a2⟩ := atoi_back r1 r2
  simp only at r1 r2 a1 a2
  rcases h with ⟨rfl, rfl, rfl, rfl, rfl⟩ | ⟨rfl, rfl, rfl, h4, h5⟩ | ⟨rfl, rfl, h3, h4, h5⟩
  · rfl
  · have hl := line_inv ⟨1, client, op, zBk, 0⟩ rfl
    have hf : finE (lineE ⟨1, client, op, zBk, 0⟩) true ⟨1, client, op, zBk, 0⟩ = some ⟨1, client, op, zBk, 0⟩ := if_pos ⟨rfl, rfl⟩
    have c1 : cutA (lineE ⟨1, client, op, zBk, 0⟩) 32 = (sInvoke, Lib.itoa client ++ 32 :: lineP op, true) := by rw [hl]; exact cutA_is _ (by decide)
    have hne : lineE ⟨1, client, op, zBk, 0⟩ ≠ sCrash := fun e => by rw [hl] at e; simp [sInvoke, sCrash] at e
    unfold evP
    rw [if_neg hne, c1]
    simp only
    rw [if_pos trivial, cutA_is _ (itoa_no32 _)]
    simp only
    rw [parse_line1 h4 h5, a1, a2]
    exact hf
  · by_cases hz : value = zBk
    · subst hz
      have hl := line_ret0 ⟨2, client, zOp, zBk, err⟩ rfl rfl
      have hf : finE (lineE ⟨2, client, zOp, zBk, err⟩) true ⟨2, client, zOp, zBk, err⟩ = some ⟨2, client, zOp, zBk, err⟩ := if_pos ⟨rfl, rfl⟩
      have c1 : cutA (lineE ⟨2, client, zOp, zBk, err⟩) 32 = (sReturn, Lib.itoa client ++ 32 :: wordE err, true) := by rw [hl]; exact cutA_is _ (by decide)
      have hne : lineE ⟨2, client, zOp, zBk, err⟩ ≠ sCrash := fun e => by rw [hl] at e; simp [sReturn, sCrash] at e
      unfold evP
      rw [if_neg hne, c1]
      simp only
      rw [if_neg (by decide), if_pos trivial, cutA_is _ (itoa_no32 _)]
      simp only
      rw [cutA_no (word_no32 h3)]
      simp only
      rw [keyOf_word h3, a1, a2]
      exact hf
    · have he : err = 0 := h5 hz
      subst he
      have hl := line_ret1 ⟨2, client, zOp, value, 0⟩ rfl hz
      have hf : finE (lineE ⟨2, client, zOp, value, 0⟩) true ⟨2, client, zOp, value, 0⟩ = some ⟨2, client, zOp, value, 0⟩ := if_pos ⟨rfl, rfl⟩
      have c1 : cutA (lineE ⟨2, client, zOp, value, 0⟩) 32 = (sReturn, Lib.itoa client ++ 32 :: (sOk ++ 32 :: hexP value), true) := by rw [hl]; exact cutA_is _ (by decide)
      have hne : lineE ⟨2, client, zOp, value, 0⟩ ≠ sCrash := fun e => by rw [hl] at e; simp [sReturn, sCrash] at e
      unfold evP
      rw [if_neg hne, c1]
      simp only
      rw [if_neg (by decide), if_pos trivial, cutA_is _ (itoa_no32 _)]
      simp only
      rw [cutA_is _ (by decide)]
      simp only
      rw [show keyOf sOk = some 0 by decide]
      simp only
      rw [if_pos trivial, block_hex h4]
      simp only
      rw [a1, a2]
      exact hf
def rword (e : Int) : List UInt8 := if e = 1 then sArg else if e = 8 then sNonce else if e = 9 then sInteg else sOk
def rlineE (x : HEv) : List UInt8 := if x.kind = 3 then sCrash else if x.kind = 1 then (sInvoke ++ [32]) ++ Lib.itoa x.client ++ [32] ++ lineP x.op else
  (sReturn ++ [32]) ++ Lib.itoa x.client ++ [32] ++ rword x.err ++ (if x.value = zBk then [] else [32] ++ hexP x.value)
def finR24 (s : List UInt8) (x : HEv) : Option HEv := if rlineE x = s then some x else none
def keyR (c : List UInt8) : Int := if c = sArg then 1 else if c = sNonce then 8 else if c = sInteg then 9 else 0
def valR (e : Int) (w : List (List UInt8)) : Option (List UInt8) := match w with
  | [d] => match unhexP d with
    | some v => if v.length = 32 ∧ e = 0 then some v else none
    | none => none
  | _ => some zBk
def evR (s : List UInt8) : Option HEv := match cutL s 32 with
  | none => finR24 s crashE
  | some (a, r1) => match cutL r1 32 with
    | none => finR24 s crashE
    | some (b, rest) =>
      if a = sInvoke then
        match readP rest, intR b with
        | some o, some n => if o.data.length ≤ 64 then finR24 s ⟨1, n, o, zBk, 0⟩ else none
        | _, _ => none
      else if a = sReturn then
        match splitL rest 32 with
        | [] => none
        | c :: w => match valR (keyR c) w, intR b with
          | some v, some n => finR24 s ⟨2, n, zOp, v, keyR c⟩
          | _, _ => none
      else finR24 s crashE
def hparse (s : List UInt8) (rd : RdS) (h : List HEv) (n : Nat) : List HEv × Nat × Int :=
  if s = [] then (h, 0, 0) else
  match _h : cutL s 10 with
  | none => ([], n, 5)
  | some (t, r) => match evP t with
    | none => ([], n, 5)
    | some x => if 8192 < n then ([], n, 3) else if (takeS rd x).2 = true then hparse r (takeS rd x).1 (h ++ [x]) (n + 1) else ([], n, 18)
termination_by s.length
decreasing_by
  have := (cutL_some _h).1
  rw [this]
  simp
  omega
theorem hparse_nil (rd : RdS) (h : List HEv) (n : Nat) : hparse [] rd h n = (h, 0, 0) := by rw [hparse, if_pos rfl]
theorem hparse_none {s : List UInt8} (rd : RdS) (l : List HEv) (n : Nat) (hs : s ≠ []) (h : cutL s 10 = none) : hparse s rd l n = ([], n, 5) := by
  rw [hparse, if_neg hs]
  split
  · rfl
  · rename_i t r h2; rw [h] at h2; cases h2
theorem hparse_some {s t r : List UInt8} (rd : RdS) (l : List HEv) (n : Nat) (hs : s ≠ []) (h : cutL s 10 = some (t, r)) : hparse s rd l n = match evP t with
    | none => ([], n, 5)
    | some x => if 8192 < n then ([], n, 3) else if (takeS rd x).2 = true then hparse r (takeS rd x).1 (l ++ [x]) (n + 1) else ([], n, 18) := by
  rw [hparse, if_neg hs]
  split
  · rename_i h2; rw [h] at h2; cases h2
  · rename_i t' r' h2; rw [h] at h2; cases h2; rfl
def hparseR : List (List UInt8) → Nat → List HEv → List HEv × Nat × Int
  | [], _, h => (h, 0, 0)
  | [w], i, h => if w = [] then (h, 0, 0) else ([], i + 1, 5)
  | w :: w2 :: ws, i, h => match evR w with
    | none => ([], i + 1, 5)
    | some x => if 8192 ≤ i then ([], i + 1, 3) else if fitB h x = true then hparseR (w2 :: ws) (i + 1) (h ++ [x]) else ([], i + 1, 18)
theorem goS_take {rd : RdS} {x : HEv} {l : List HEv} {i : Nat} : goS rd (x :: l) i = if (takeS rd x).2 then goS (takeS rd x).1 l (i + 1) else ((takeS rd x).1, (i : Int)) := by
  have := goS_step (s := rd) (h := List.replicate i x ++ x :: l) (i := i) (x := x) (by simp)
  rw [List.drop_left' (by simp)] at this
  rw [this, show List.replicate i x ++ x :: l = (List.replicate i x ++ [x]) ++ l by simp, List.drop_left' (by simp)]
theorem line_no10 {x : HEv} (h : WfE x) : (10 : UInt8) ∉ lineE x := by
  obtain ⟨_, _, h⟩ := h
  have hi : ∀ n : Int, (10 : UInt8) ∉ Lib.itoa n := fun n hm => (itoa_mem hm).1 rfl
  rcases h with ⟨h1, _⟩ | ⟨h1, _⟩ | ⟨h1, _, h3, h4, h5⟩
  · rw [lineE, if_pos h1]; decide
  · rw [line_inv x h1]
    have := fun hm => (line_mem x.op 10 hm) rfl
    simp only [List.mem_append, List.mem_cons, not_or]
    exact ⟨by decide, by decide, hi _, by decide, this⟩
  · have hw : (10 : UInt8) ∉ wordE x.err := by rcases kn4_out h3 with e | e | e | e <;> (rw [e]; decide)
    by_cases hz : x.value = zBk
    · rw [line_ret0 x h1 hz]
      simp only [List.mem_append, List.mem_cons, not_or]
      exact ⟨by decide, by decide, hi _, by decide, hw⟩
    · rw [line_ret1 x h1 hz]
      simp only [List.mem_append, List.mem_cons, not_or]
      exact ⟨by decide, by decide, hi _, by decide, by decide, by decide, fun hm => (hexP_mem hm).1 rfl⟩
end Go.Proofs.YtmojbghcngdkpaaGreatDoor

namespace Go.Eng
open Go.RowKit
open Go.ChangeMaps (setBlock)
section
variable {P : Program} {T : Tab} {env : Env} {h : Upds} {n : Nat}
theorem range_map {t kt et : Nat} {x : Operand} {rm : Nat} {κ : Type} {enc : κ → D} {l : List (κ × AV)} (ht : P.underlying t = some (.map kt et)) (hx : evalA env x = some (.mapr rm)) (hr : lookH h rm = some (.mo (mapC enc l))) :
    StepIs P (.range t x) env h n (some (.ptr n [])) [(n, some (.mi (.mapr rm) l.length l.length []))] := .of_comes fun C G st σ w a o ho hA hd hst hn => by
  obtain ⟨b, c, hs, hu⟩ := RelV.mapr.1 (ev_sound hst (hA.ev hx)).1
  have hgm : G rm := (ev_sound hst (hA.ev hx)).2
  have hrow := hA.row _ _ hr
  obtain ⟨b', es, hb1, hb2, hb3, hb4⟩ := hst.rows rm _ hrow
  rw [hs] at hb2
  cases hb2
  have hl : es.size = l.length := by
    have := ((mapC_rel l _).1 hb4).len
    simpa using this
  have hnn : ¬ G n := hn n (Nat.le_refl _) (by omega)
  have hne : rm ≠ n := fun e => hnn (e ▸ hgm)
  have hnew := StRel.freshBy hst hnn (w' := w.alloc (.mapIter (some b) es.size #[] es.size)) (by
      refine ⟨rfl, rfl, rfl, by simp, fun k hk _ => ?_⟩
      exact heap_alloc_old w _ hk) (Nat.le_refl _) (b := w.heap.size) (c := 1) (.mi (.mapr rm) l.length l.length []) hgm (fun σ' X' h1 _ hs' => ⟨w.heap.size, b, hs', by rw [← hl]; exact heap_alloc_new w _, h1 (.mapr rm) false _ hgm ⟨b, 1, hs, rfl⟩⟩)
  refine ⟨some (.ptr n []), [(n, some (.mi (.mapr rm) l.length l.length []))], .value (.pointer (some ⟨w.heap.size, 0, none⟩)), .pointer (some ⟨w.heap.size, 0, none⟩), w.alloc (.mapIter (some b) es.size #[] es.size), fun q => if q = n then some (w.heap.size, 1) else σ q, fun q => G q ∨ q = n, ⟨rfl, rfl⟩, ?_, .inl rfl, ?_, fun r hr => .inl hr, fun r hr => hr.imp id (fun e => by omega)⟩
  · have hget : (getObj b).run P w = .ok (.map es es.size) w := by simp [getObj, Sem.run, hb3]
    simp [execOp, ho, Instr.range, run_underlying ht, hu, newObj, Sem.run, hget]
  · rw [St.put_upd]
    exact hnew.set hd (RelV.ptr.2 ⟨w.heap.size, 1, by simp, by simp [pathOff]⟩) (.inr rfl)
theorem EntRel.at {κ : Type} {enc : κ → D} {σ : Place} {w : World} {X : Nat → Prop} : ∀ (l : List (κ × AV)) (es : List MapEntry), EntRel σ w X enc l es → ∀ (i : Nat) (e : MapEntry), es[i]? = some e →
    ∃ k v, l[i]? = some (k, v) ∧ RelV σ w X (.d (enc k)) e.key ∧ RelV σ w X v e.val
  | [], es, h, i, e, he => by rw [show es = [] from h] at he; simp at he
  | (k, v) :: l, es, h, i, e, he => by
    obtain ⟨e0, es', rfl, h1, h2, h3⟩ := h
    cases i with
    | zero =>
      simp only [List.getElem?_cons_zero, Option.some.injEq] at he
      subst he
      exact ⟨k, v, rfl, h1, h2⟩
    | succ i => exact EntRel.at l es' h3 i e (by simpa using he)
theorem entry_map {x : Operand} {r rm L i : Nat} {seen : List Nat} {κ : Type} {enc : κ → D} {l : List (κ × AV)} {k : κ} {v : AV} (hx : evalA env x = some (.ptr r [])) (hr : lookH h r = some (.mi (.mapr rm) L L (seen ++ [i]))) (hm : lookH h rm = some (.mo (mapC enc l))) (hL : L = l.length) (hi : l[i]? = some (k, v)) :
    StepIs P (.entry x) env h n (some (.tup (.acons (.d (enc k)) (.acons v .anil)))) [] := .of_comes fun C G st σ w a o ho hA hd hst hn => by
  subst hL
  have hrow := hA.row _ _ hr
  have hrowm := hA.row _ _ hm
  obtain ⟨b, m, hb1, hb2, hb3⟩ := hst.rows r _ hrow
  obtain ⟨bm, es, hm0, hm1, hm2, hm3⟩ := hst.rows rm _ hrowm
  obtain ⟨bm', c', e1, e2⟩ := hb3
  rw [hm1] at e1
  cases e1
  simp only [List.cons.injEq, Value.map.injEq, Option.some.injEq, and_true] at e2
  subst e2
  obtain ⟨b', c', hs', hu⟩ := RelV.ptr.1 (ev_sound hst (hA.ev hx)).1
  rw [hb1] at hs'
  cases hs'
  have hent := (mapC_rel l _).1 hm3
  have hlen : es.size = l.length := by simpa using hent.len
  have hlt : i < es.size := by rw [hlen]; exact (List.getElem?_eq_some_iff.1 hi).1
  have hei : es[i]? = some es[i] := Array.getElem?_eq_getElem hlt
  have hbi := hm0 i _ hei
  obtain ⟨k', v', q1, q2, q3⟩ := EntRel.at l _ hent i es[i] (by simp)
  rw [hi] at q1
  cases q1
  have hnd : (es.toList.map (·.born)).Nodup := by
    rw [show es.toList.map (·.born) = List.range es.size by
      apply List.ext_getElem?
      intro j
      rw [List.getElem?_map]
      by_cases hj : j < es.size
      · rw [List.getElem?_eq_getElem (by simpa using hj), List.getElem?_range hj]
        have := hm0 j _ (Array.getElem?_eq_getElem hj)
        simp [this]
      · rw [List.getElem?_eq_none (by simpa using hj), List.getElem?_eq_none (by simpa using hj)]; rfl]
    exact List.nodup_range
  refine .quiet (u := .tuple #[es[i].key, es[i].val]) hst hd ⟨rfl, rfl⟩ ?_ ?_ ?_
  · have hrun := run_entry_at (P := P) w b m l.length seen.toArray es es.size es[i] (by rw [hb2, hbi, hlen, List.push_toArray]) hm2 (by simp) hnd
    simp only [execOp, ho, hu, pathOff, Sem.run_bind, hrun, Result.andThen_ok, Sem.run_pure]
  · unfold RelV
    rw [if_neg (by simp [AV.isAgg])]
    exact ⟨_, rfl, _, _, rfl, q2, _, _, rfl, q3, rfl⟩
  · exact ⟨trivial, (mapC_within l).1 (hst.rowsG rm _ hrowm).2 (k, v) (List.mem_of_getElem? hi), trivial⟩
variable {sz : Nat} {all rest : List Oper} {K : Env → Upds → Nat → Prop}
theorem reg_next_map {d : Tmp} {x : Operand} {ty : TypeId} {pos : String} {af : Array Edge} {r rm L : Nat} {seen : List Nat} {κ : Type} {enc : κ → D} {l : List (κ × AV)} (hd : Nat.blt d sz = true) (hx : evalA env x = some (.ptr r []))
    (hr : lookH h r = some (.mi (.mapr rm) L L seen)) (hm : lookH h rm = some (.mo (mapC enc l))) (hL : L = l.length)
    (hend : (∀ i, i < l.length → i ∈ seen) → RegS P all sz rest (n + 8) ((d, .tup (.acons (.bool false) .anil)) :: env) h K)
    (hgo : ∀ i k v, l[i]? = some (k, v) → i ∉ seen → RegS P all sz rest (n + 8) ((d, .tup (.acons (.bool true) (.acons (.d (enc k)) (.acons v .anil)))) :: env) ((r, some (.mi (.mapr rm) L L (seen ++ [i]))) :: h) K) :
    RegS P all sz (⟨some d, .next x false, ty, pos, af, none⟩ :: rest) n env h K := by
  subst hL
  intro C σ w a hst Q hQ
  have hrow : (⟨env, h, n, sz, 64⟩ : St).row r = some (.mi (.mapr rm) l.length l.length seen) := by rw [← lookH_row]; exact hr
  have hrowm : (⟨env, h, n, sz, 64⟩ : St).row rm = some (.mo (mapC enc l)) := by rw [← lookH_row]; exact hm
  obtain ⟨b, m, hb1, hb2, hb3⟩ := hst.rows r _ hrow
  obtain ⟨bm, es, hm0, hm1, hm2, hm3⟩ := hst.rows rm _ hrowm
  obtain ⟨bm', c', e1, e2⟩ := hb3
  rw [hm1] at e1
  cases e1
  simp only [List.cons.injEq, Value.map.injEq, Option.some.injEq, and_true] at e2
  subst e2
  obtain ⟨b', c', hs', hu⟩ := RelV.ptr.1 (ev_sound hst hx).1
  rw [hb1] at hs'
  cases hs'
  have hlen : es.size = l.length := by simpa using ((mapC_rel l _).1 hm3).len
  have hborn : ∀ e ∈ es.toList, e.born < l.length := by
    intro e he
    obtain ⟨i, hi⟩ := List.getElem?_of_mem he
    have hi' : es[i]? = some e := by simpa using hi
    rw [hm0 i e hi']
    have := (Array.getElem?_eq_some_iff.1 hi').1
    omega
  have hdst : dstOk (some d) sz = true := hd
  unfold wpListIn
  rw [if_pos (show Region.wanted _ _ = true from rfl)]
  refine ⟨fun _ _ => trivial, ?_⟩
  rcases run_next_at (P := P) w ty b m l.length l.length seen.toArray es es.size hb2 hm2 hborn (Nat.le_refl _) with ⟨h0, hrun⟩ | ⟨e, he, w1, hw1, hrun⟩
  · have hex : (execOp a.eval ⟨some d, .next x false, ty, pos, af, none⟩).run P w = .ok (.value (.tuple #[.bool false])) w := by
      simp only [execOp, hu, pathOff, Sem.run_bind, hrun, Result.andThen_ok, Sem.run_pure]
    rw [semAt_fen hex (fun c hc => by cases hc)]
    have hst2 := hst.set (v := some (.tup (.acons (.bool false) .anil))) (u := .tuple #[.bool false]) (dst := some d) (dstOk_out hdst) (by
      unfold RelV
      rw [if_neg (by simp [AV.isAgg])]
      exact ⟨_, rfl, _, _, rfl, RelV.sc.2 ⟨rfl, rfl⟩, rfl⟩) ⟨trivial, trivial⟩
    rw [put_eq] at hst2
    refine hend ?_ C σ w _ ?_ Q hQ
    · intro i hi
      have hlt : i < es.size := by omega
      have h1 : es[i].born = i := hm0 i _ (Array.getElem?_eq_getElem hlt)
      by_cases hc : i ∈ seen
      · exact hc
      · exfalso
        have : es[i] ∈ leftOf es seen.toArray := by
          unfold leftOf
          rw [Array.mem_filter]
          refine ⟨by simp, ?_⟩
          rw [h1]
          simpa using hc
        have := Array.size_pos_of_mem this
        omega
    · have := hst2.grow (G' := fun r => r < n + 8) (fun r hr => Nat.lt_of_lt_of_le hr (Nat.le_add_right n 8))
      exact { this with }
  · have hheap : w1.heap = w.heap := by rcases hw1 with rfl | rfl <;> rfl
    have hst1 : StRel C (fun r => r < n) ⟨env, h, n, sz, 64⟩ σ w1 a := by
      rcases hw1 with rfl | rfl
      · exact hst
      · exact hst.drew
    obtain ⟨bm2, es2, _, k1, k2, k3⟩ := hst1.rows rm _ hrowm
    rw [hm1] at k1
    cases k1
    rw [hheap, hm2] at k2
    cases k2
    have hmem : e ∈ es.toList ∧ e.born ∉ seen := by
      unfold leftOf at he
      rw [Array.mem_toList_iff, Array.mem_filter] at he
      exact ⟨by simpa using he.1, by simpa using he.2⟩
    obtain ⟨i, hi⟩ := List.getElem?_of_mem hmem.1
    have hi' : es[i]? = some e := by simpa using hi
    have hbi := hm0 i e hi'
    obtain ⟨k, v, q1, q2, q3⟩ := EntRel.at l _ ((mapC_rel l _).1 k3) i e hi
    have hex : (execOp a.eval ⟨some d, .next x false, ty, pos, af, none⟩).run P w = .ok (.value (.tuple #[.bool true, e.key, e.val])) (setBlock w1 b (.mapIter (some m) l.length (seen.toArray.push e.born) es.size)) := by
      simp only [execOp, hu, pathOff, Sem.run_bind, hrun, Result.andThen_ok, Sem.run_pure]
    rw [semAt_fen hex (fun c hc => by cases hc)]
    have hgv : v.within (fun r => r < n) := (mapC_within l).1 (hst.rowsG rm _ hrowm).2 (k, v) (List.mem_of_getElem? q1)
    have hgm : rm < n := (hst.rowsG rm _ hrowm).1
    have hst2 := hst1.set (v := some (.tup (.acons (.bool true) (.acons (.d (enc k)) (.acons v .anil))))) (u := .tuple #[.bool true, e.key, e.val]) (dst := some d) (dstOk_out hdst) (by
      unfold RelV
      rw [if_neg (by simp [AV.isAgg])]
      exact ⟨_, rfl, _, _, rfl, RelV.sc.2 ⟨rfl, rfl⟩, _, _, rfl, q2, _, _, rfl, q3, rfl⟩) ⟨trivial, trivial, hgv, trivial⟩
    rw [put_eq] at hst2
    have hrow2 : (⟨putE (some d) (some (.tup (.acons (.bool true) (.acons (.d (enc k)) (.acons v .anil))))) env, [] ++ h, n, sz, 64⟩ : St).row r = some (.mi (.mapr rm) l.length l.length seen) := by rw [← lookH_row]; exact hr
    have hst3 := hst2.writeObj (o' := .mapIter (some m) l.length (seen.toArray.push e.born) es.size) (row := .mi (.mapr rm) l.length l.length (seen ++ [i])) hrow2 hb1 (by rw [hheap]; exact hb2) rfl hgm
      (fun w' ht hh' => ⟨b, m, hb1, by rw [hh', hbi, hlen, List.push_toArray], ht (.mapr rm) false _ hgm ⟨m, 1, hm1, rfl⟩⟩)
    refine hgo i k v q1 (by rw [← hbi]; exact hmem.2) C σ _ _ ?_ Q hQ
    have := hst3.grow (G' := fun r => r < n + 8) (fun r hr => Nat.lt_of_lt_of_le hr (Nat.le_add_right n 8))
    exact { this with }
end
end Go.Eng

namespace Go.Eng
open Go.RowKit
section
variable {P : Program} {T : Tab} {env : Env} {h : Upds} {n : Nat}
end
end Go.Eng

namespace Go.Eng
open Go.RowKit
set_option linter.unusedSimpArgs false
section
variable {P : Program} {T : Tab} {env : Env} {h : Upds} {n : Nat}
theorem run_neq_ni {t : Nat} {w : World} {ms} (hud : P.underlying t = some (.interface ms)) : (binOp .neq t .nilIface .nilIface).run P w = .ok (.bool false) w := by
  have h1 : (Op.equalIn 10000 t .nilIface .nilIface).run P w = .ok true w := by
    rw [show (10000 : Nat) = 9999 + 1 from rfl, Op.equalIn]
    simp only [Sem.run_bind, run_underlying hud, Result.andThen_ok, Sem.run_pure]
  show (do let b ← Op.equalIn 10000 t _ _; pure (Value.bool !b) : Sem Value).run P w = _
  simp only [Sem.run_bind, h1, Result.andThen_ok, Sem.run_pure, Bool.not_true]
theorem run_neq_er {t t1 : Nat} {w : World} {ms} {v : Value} (hud : P.underlying t = some (.interface ms)) : (binOp .neq t (.iface t1 v) .nilIface).run P w = .ok (.bool true) w := by
  have h1 : (Op.equalIn 10000 t (.iface t1 v) .nilIface).run P w = .ok false w := by
    rw [show (10000 : Nat) = 9999 + 1 from rfl, Op.equalIn]
    simp only [Sem.run_bind, run_underlying hud, Result.andThen_ok, Sem.run_pure]
  show (do let b ← Op.equalIn 10000 t _ _; pure (Value.bool !b) : Sem Value).run P w = _
  simp only [Sem.run_bind, h1, Result.andThen_ok, Sem.run_pure, Bool.not_false]
theorem neq_nilI {t t' : Nat} {x : Operand} {ms} (hu : P.underlying t = some (.interface ms)) (hx : evalA env x = some (.d (.sc .nilIface))) :
    StepIs P (.binOp .neq t x (.const .nilIface) t') env h n (some (.bool false)) [] := .of_comes fun C G st σ w ac o ho hA hdst hst hn => by
  obtain ⟨hv, _⟩ := RelV.sc.1 (ev_sound hst (hA.ev hx)).1
  refine .quiet (u := .bool false) hst hdst ⟨rfl, rfl⟩ ?_ (RelV.sc.2 ⟨rfl, rfl⟩) trivial
  have hg : (eqGuard .neq t x (.const .nilIface) .nilIface .nilIface).run P w = .ok () w := by
    simp [eqGuard]
    try (cases x <;> rfl)
  have hc : ac.eval (.const .nilIface) = .nilIface := rfl
  simp only [execOp, ho, hv, hc, Sem.run_bind, hg, Result.andThen_ok, run_neq_ni hu, Sem.run_pure]
theorem neq_er {t t' : Nat} {x : Operand} {ms} (hu : P.underlying t = some (.interface ms)) (hx : evalA env x = some .er) :
    StepIs P (.binOp .neq t x (.const .nilIface) t') env h n (some (.bool true)) [] := .of_comes fun C G st σ w ac o ho hA hdst hst hn => by
  obtain ⟨t1, v, hv⟩ := RelV.er.1 (ev_sound hst (hA.ev hx)).1
  refine .quiet (u := .bool true) hst hdst ⟨rfl, rfl⟩ ?_ (RelV.sc.2 ⟨rfl, rfl⟩) trivial
  have hg : (eqGuard .neq t x (.const .nilIface) (.iface t1 v) .nilIface).run P w = .ok () w := rfl
  have hc : ac.eval (.const .nilIface) = .nilIface := rfl
  simp only [execOp, ho, hv, hc, Sem.run_bind, hg, Result.andThen_ok, run_neq_er hu, Sem.run_pure]
end
end Go.Eng

namespace Go.Proofs.YtmojbghcngdkpaaGreatDoor
open Go.Eng Go.Plain
set_option maxHeartbeats 8000000
set_option maxRecDepth 20000
attribute [local irreducible] WC RegS RegD SeqQ BlkQ ScoQ RegK CutK Sat SatN FnIs LoopQ StepIs OpIs
def rtextE (h : List HEv) : List UInt8 := h.flatMap fun x => rlineE x ++ [10]
end Go.Proofs.YtmojbghcngdkpaaGreatDoor

namespace Go.Proofs.YtmojbghcngdkpaaGreatDoor
open Go.Eng Go.Plain
set_option maxHeartbeats 8000000
set_option maxRecDepth 20000
attribute [local irreducible] WC RegS RegD SeqQ BlkQ ScoQ RegK CutK Sat SatN FnIs LoopQ StepIs OpIs
def cntC (l : List HOp) (c : Int) : Int := (l.countP fun o => decide (o.client = c) : Nat)
def retOf (c : Int) : List HEv → Nat → Option (Nat × HEv)
  | [], _ => none
  | x :: l, k => if x.kind = 3 then none else if x.client = c then some (k, x) else retOf c l (k + 1)
def opBase (x : HEv) (i : Nat) (era n : Int) : HOp := ⟨x.client, n, era, x.op, i, -1, zBk, 0⟩
def opAns (o : HOp) : Option (Nat × HEv) → HOp
  | none => o
  | some (k, y) => { o with returned := k, value := y.value, err := y.err }
def mkOp (h : List HEv) (i : Nat) (x : HEv) (out : List HOp) (era : Int) : HOp := opAns (opBase x i era (cntC out x.client)) (retOf x.client (h.drop (i + 1)) (i + 1))
def opsRG (h : List HEv) : Nat → Nat → List HOp → Int → List HOp
  | 0, _, out, _ => out
  | n + 1, i, out, era => match h[i]? with
    | none => out
    | some x => if x.kind = 3 then opsRG h n (i + 1) out (era + 1) else if x.kind = 1 then opsRG h n (i + 1) (out ++ [mkOp h i x out era]) era else opsRG h n (i + 1) out era
def opsR (h : List HEv) : List HOp := opsRG h h.length 0 [] 0
theorem cntC_take {l : List HOp} {k : Nat} {o : HOp} (c : Int) (ho : l[k]? = some o) : cntC (l.take (k + 1)) c = cntC (l.take k) c + (if o.client = c then 1 else 0) := by
  rw [cntC, cntC, List.take_add_one, ho, Option.toList_some, List.countP_append]
  by_cases h : o.client = c <;> simp [h]
theorem cntC_le (l : List HOp) (c : Int) : 0 ≤ cntC l c ∧ cntC l c ≤ l.length := by
  have := List.countP_le_length (p := fun o : HOp => decide (o.client = c)) (l := l)
  unfold cntC
  omega
theorem retOf_step {h : List HEv} {k : Nat} {y : HEv} (c : Int) (hy : h[k]? = some y) : retOf c (h.drop k) k = if y.kind = 3 then none else if y.client = c then some (k, y) else retOf c (h.drop (k + 1)) (k + 1) := by
  have hlt := (List.getElem?_eq_some_iff.1 hy).1
  rw [List.drop_eq_getElem_cons hlt, (List.getElem?_eq_some_iff.1 hy).2]
  rfl
theorem rops_own (h : List HEv) (hL : h.length ≤ 1000000) : FnIs Tryz.prog 27 [.d (encH h)] [] (.own 64 0 (opsR h).length 41 none) [(64, opRow (opsR h))] := by
  refine fnIs_of tab_ok Tryz.func27 rfl rfl rfl ?_;refine sR ?_;refine rC ?_;refine nR ?_;refine rC ?_;refine nR ?_;refine rC ?_;refine nQ ?_;refine sR ?_;refine rC ?_
  refine nS ?_;refine wc_block ?_
  refine wc_inv (fun q : Nat × List HOp × Int => ⟨[(5, .int .i64 q.1), (4, .int .i64 q.2.2), (3, .own 65 0 q.2.1.length 41 none), (0, .d (encH h))], [(65, some (opRow q.2.1))], 72, Tryz.f27.ntmps, 64⟩) (fun q => q.1 ≤ h.length ∧ q.2.1.length ≤ q.1 ∧ 0 ≤ q.2.2 ∧ q.2.2 ≤ q.1 ∧ opsRG h (h.length - q.1) q.1 q.2.1 q.2.2 = opsR h) (fun q => h.length - q.1) (0, [], 0) [(65, none)] ⟨Nat.zero_le _, Nat.le_refl _, Int.le_refl _, Int.le_refl _, rfl⟩
    (.of rfl rfl rfl rfl rfl ⟨⟨_, rfl, .refl _⟩, rfl, ⟨_, rfl, .refl _⟩, rfl, ⟨_, rfl, .refl _⟩, rfl, ⟨_, rfl, .refl _⟩, rfl, trivial⟩ ⟨⟨rfl, rfl, rfl⟩, trivial⟩) ?_
  rintro ⟨i, out, era⟩ ⟨hi, ho, he0, he1, hgo⟩
  simp only at hi ho he0 he1 hgo
  refine wc_of ?_;refine qR ?_;iterate 2 refine rC ?_
  refine rQ iE ?_;refine rC ?_;refine nS ?_
  refine wc_cond rfl (fun h2 => ?_) (fun h2 => ?_)
  · have hlt : i < h.length := by have := of_decide_eq_true h2; omega
    obtain ⟨x, hx⟩ : ∃ u, h[i]? = some u := ⟨_, List.getElem?_eq_getElem hlt⟩
    have hx' : h[((i : Int)).toNat]? = some x := by rw [Int.toNat_natCast]; exact hx
    have hw22 : IntKind.i64.wrap (era + 1) = era + 1 := wrap_i64 (by omega) (by omega)
    obtain ⟨n, hn⟩ : ∃ n, h.length - i = n + 1 := ⟨h.length - i - 1, by omega⟩
    have hn' : h.length - (i + 1) = n := by omega
    rw [hn, opsRG, hx] at hgo
    simp only at hgo
    by_cases k3 : x.kind = 3
    · have d3 : decide (x.kind = 3) = true := decide_eq_true k3
      have d1 : (!decide (x.kind = 1)) = true := by rw [decide_eq_false (by omega)]; rfl
      rw [if_pos k3] at hgo
      refine kS ?_;refine wc_seq ?_;refine wc_block ?_;refine qR ?_;iterate 2 refine rC ?_
      refine rQ (index_arr tab_ok rfl rfl rfl rfl rfl (by omega) hx') ?_;refine rC ?_;refine rQ iL ?_;refine rC ?_;refine nS ?_;refine wT ?_;refine wc_region ?_;refine rC ?_
      refine rQ (add_int (m := era + 1) tab_ok rfl rfl hw22) ?_;refine rC ?_;refine nQ ?_;refine sR ?_;iterate 2 refine rC ?_
      refine rQ (index_arr tab_ok rfl rfl rfl rfl rfl (by omega) hx') ?_;refine rC ?_;refine rQ iL ?_;refine rC ?_;refine nS ?_;refine wT ?_;refine wc_exit ?_;refine seq_x ?_
      refine blk_x ?_;refine seq_n ?_;refine wc_region ?_;refine rC ?_;refine rQ iD ?_;refine rC ?_;refine reg_nil ?_
      exact loop_n (i + 1, out, era + 1) [(65, some 65)] ⟨hlt, by simp only; omega, by simp only; omega, by simp only; omega, by simp only [hn']; exact hgo⟩ (by show h.length - (i + 1) < h.length - i; omega) (.of rfl rfl rfl rfl rfl ⟨⟨_, rfl, .refl _⟩, rfl, ⟨_, rfl, .refl _⟩, rfl, ⟨_, rfl, .refl _⟩, rfl, ⟨_, rfl, .refl _⟩, rfl, trivial⟩ ⟨⟨rfl, rfl, _, rfl, .refl _⟩, trivial⟩)
    · have d3 : decide (x.kind = 3) = false := decide_eq_false k3
      rw [if_neg k3] at hgo
      by_cases k1 : x.kind = 1
      · have d1 : (!decide (x.kind = 1)) = false := by rw [decide_eq_true k1]; rfl
        rw [if_pos k1] at hgo
        refine kS ?_;refine wc_seq ?_;refine wc_block ?_;refine qR ?_;iterate 2 refine rC ?_
        refine rQ (index_arr tab_ok rfl rfl rfl rfl rfl (by omega) hx') ?_;refine rC ?_;refine rQ iL ?_;refine rC ?_;refine nS ?_;refine wF ?_;refine kS ?_;refine qR ?_
        iterate 2 refine rC ?_
        refine rQ (index_arr tab_ok rfl rfl rfl rfl rfl (by omega) hx') ?_;refine rC ?_;refine rQ iL ?_;refine rC ?_;refine nS ?_;refine wF ?_;refine kS ?_;refine wc_seq ?_
        refine wc_draw (by kernel_rfl) ?_;refine dC [0] [] ?_;refine dC [5] [] ?_;refine dQ [29, 30] [] (index_arr tab_ok rfl rfl rfl rfl rfl (by omega) hx') ?_;refine dC [31] [] ?_
        refine dQ [32] [] iL ?_;refine dC [4] [] ?_;refine dC [0] [] ?_;refine dC [5] [] ?_;refine dQ [35, 36] [] (index_arr tab_ok rfl rfl rfl rfl rfl (by omega) hx') ?_
        refine dC [37] [] ?_;refine dQ [38] [] iL ?_;refine dC [5] [] ?_;refine dQ [33, 34, 39, 40] [] iS ?_;refine dreg_w [] [] rfl (step_C tab_ok (fun K hk => hk)) ?_
        refine dreg_s [6, 41] [304] (store_row tab_ok rfl rfl rfl ⟨_, ⟨rfl, rfl, rfl⟩, rfl⟩ rfl) ?_;refine dreg_end (by kernel_rfl) ?_;refine seq_n ?_;refine qR ?_;refine rC ?_
        refine nS ?_;refine wc_block ?_
        refine wc_inv (fun k : Nat => ⟨[(7, .int .i64 k), (6, .ptr 66 []), (5, .int .i64 i), (4, .int .i64 era), (3, .own 65 0 out.length 41 none), (0, .d (encH h))], [(65, some (opRow out)), (66, some (.box 54 (.d (encOpn (opBase x i era (cntC (out.take k) x.client))))))], 72, Tryz.f27.ntmps, 64⟩) (fun k => k ≤ out.length) (fun k => out.length - k) 0 [(65, some 65), (66, some _)] (Nat.zero_le _)
          (.of rfl rfl rfl rfl rfl ⟨⟨_, rfl, .refl _⟩, rfl, ⟨_, rfl, .refl _⟩, rfl, ⟨_, rfl, .refl _⟩, rfl, ⟨_, rfl, .refl _⟩, rfl, ⟨_, rfl, .refl _⟩, rfl, ⟨_, rfl, .refl _⟩, rfl, trivial⟩ ⟨⟨rfl, rfl, _, rfl, .refl _⟩, ⟨rfl, rfl, _, rfl, .refl _⟩, trivial⟩) ?_
        intro k hk
        refine wc_of ?_;refine qR ?_;iterate 2 refine rC ?_
        refine rQ (len_own tab_ok rfl rfl) ?_;refine rC ?_;refine nS ?_
        refine wc_cond rfl (fun h4 => ?_) (fun h4 => ?_)
        · have hkl : k < out.length := by have := of_decide_eq_true h4; omega
          obtain ⟨q, hq⟩ : ∃ q, out[k]? = some q := ⟨_, List.getElem?_eq_getElem hkl⟩
          have hq' : out[((k : Int)).toNat]? = some q := by rw [Int.toNat_natCast]; exact hq
          have hcn := cntC_take x.client hq
          have hcl := cntC_le (out.take k) x.client
          rw [List.length_take] at hcl
          have hw58 : IntKind.i64.wrap (cntC (out.take k) x.client + 1) = cntC (out.take k) x.client + 1 := wrap_i64 (by omega) (by omega)
          by_cases kc : q.client = x.client
          · have dc : decide (q.client = x.client) = true := decide_eq_true kc
            rw [if_pos kc] at hcn
            refine kS ?_;refine wc_seq ?_;refine wc_block ?_;refine wc_seq ?_;refine wc_draw (by kernel_rfl) ?_;refine dC [3] [] ?_;refine dC [7] [] ?_;refine dQ [48, 49] [] (index_own tab_ok rfl rfl rfl rfl rfl (by omega) (by omega)) ?_
            refine dC [50] [] ?_;refine dQ [51] [65] (load_row tab_ok rfl rfl ⟨rfl, q, hq', _, rfl, rfl⟩ rfl) ?_;refine dC [6] [] ?_;refine dQ [53] [66] iB ?_;refine dC [52, 54] [] ?_
            refine dreg_end (by kernel_rfl) ?_;refine seq_n ?_;refine wT ?_;refine wc_region ?_;refine rC ?_;refine rQ iB ?_;refine rQ (add_int tab_ok rfl rfl hw58) ?_;refine rC ?_
            refine rX ?_;refine reg_nil ?_;refine blk_n ?_;refine seq_n ?_;refine wc_region ?_;refine rC ?_;refine rQ iD ?_;refine rC ?_;refine reg_nil ?_
            exact loop_n (k + 1) [(65, some 65), (66, some 66)] hkl (by omega) (.of rfl rfl rfl rfl rfl ⟨⟨_, rfl, .refl _⟩, rfl, ⟨_, rfl, .refl _⟩, rfl, ⟨_, rfl, .refl _⟩, rfl, ⟨_, rfl, .refl _⟩, rfl, ⟨_, rfl, .refl _⟩, rfl, ⟨_, rfl, .refl _⟩, rfl, trivial⟩ ⟨⟨rfl, rfl, _, rfl, .refl _⟩, ⟨rfl, rfl, _, rfl, RowLe.of_eq (congrArg (fun n => Row.box 54 (.d (encOpn (opBase x i era n)))) hcn.symm)⟩, trivial⟩)
          · have dc : decide (q.client = x.client) = false := decide_eq_false kc
            rw [if_neg kc, Int.add_zero] at hcn
            refine kS ?_;refine wc_seq ?_;refine wc_block ?_;refine wc_seq ?_;refine wc_draw (by kernel_rfl) ?_;refine dC [3] [] ?_;refine dC [7] [] ?_;refine dQ [48, 49] [] (index_own tab_ok rfl rfl rfl rfl rfl (by omega) (by omega)) ?_
            refine dC [50] [] ?_;refine dQ [51] [65] (load_row tab_ok rfl rfl ⟨rfl, q, hq', _, rfl, rfl⟩ rfl) ?_;refine dC [6] [] ?_;refine dQ [53] [66] iB ?_;refine dC [52, 54] [] ?_
            refine dreg_end (by kernel_rfl) ?_;refine seq_n ?_;refine wF ?_;refine wc_skip ?_;refine blk_n ?_;refine seq_n ?_;refine wc_region ?_;refine rC ?_;refine rQ iD ?_
            refine rC ?_;refine reg_nil ?_
            exact loop_n (k + 1) [(65, some 65), (66, some 66)] hkl (by omega) (.of rfl rfl rfl rfl rfl ⟨⟨_, rfl, .refl _⟩, rfl, ⟨_, rfl, .refl _⟩, rfl, ⟨_, rfl, .refl _⟩, rfl, ⟨_, rfl, .refl _⟩, rfl, ⟨_, rfl, .refl _⟩, rfl, ⟨_, rfl, .refl _⟩, rfl, trivial⟩ ⟨⟨rfl, rfl, _, rfl, .refl _⟩, ⟨rfl, rfl, _, rfl, RowLe.of_eq (congrArg (fun n => Row.box 54 (.d (encOpn (opBase x i era n)))) hcn.symm)⟩, trivial⟩)
        · have hke : k = out.length := by have := of_decide_eq_false h4; omega
          subst hke
          rw [List.take_length]
          refine wc_exit ?_;refine seq_x ?_;refine loop_x ?_;refine blk_x ?_;refine seq_n ?_;refine qR ?_;refine rC ?_;refine rQ iD ?_;refine rC ?_;refine nS ?_;refine wc_block ?_
          have hal : out.length + 1 ≤ 1048576 := by omega
          refine wc_inv (fun k : Nat => ⟨[(8, .int .i64 k), (6, .ptr 66 []), (5, .int .i64 i), (4, .int .i64 era), (3, .own 65 0 out.length 41 none), (0, .d (encH h))], [(65, some (opRow out)), (66, some (.box 54 (.d (encOpn (opBase x i era (cntC out x.client))))))], 72, Tryz.f27.ntmps, 64⟩) (fun k => k ≤ h.length ∧ retOf x.client (h.drop k) k = retOf x.client (h.drop (i + 1)) (i + 1)) (fun k => h.length - k) (i + 1) [(65, some 65), (66, some 66)] ⟨hlt, rfl⟩
            (.of rfl rfl rfl rfl rfl ⟨⟨_, rfl, .refl _⟩, rfl, ⟨_, rfl, .refl _⟩, rfl, ⟨_, rfl, .refl _⟩, rfl, ⟨_, rfl, .refl _⟩, rfl, ⟨_, rfl, .refl _⟩, rfl, ⟨_, rfl, .refl _⟩, rfl, trivial⟩ ⟨⟨rfl, rfl, _, rfl, .refl _⟩, ⟨rfl, rfl, _, rfl, .refl _⟩, trivial⟩) ?_
          rintro k ⟨hk2, hret⟩
          refine wc_of ?_
          by_cases hkl : k < h.length
          · have d66 : decide ((k : Int) < (h.length : Int)) = true := decide_eq_true (by omega)
            obtain ⟨y, hy⟩ : ∃ y, h[k]? = some y := ⟨_, List.getElem?_eq_getElem hkl⟩
            have hy' : h[((k : Int)).toNat]? = some y := by rw [Int.toNat_natCast]; exact hy
            have hst := retOf_step x.client hy
            rw [hret] at hst
            by_cases y3 : y.kind = 3
            · have dy : (!decide (y.kind = 3)) = false := by rw [decide_eq_true y3]; rfl
              rw [if_pos y3] at hst
              have hmk : mkOp h i x out era = opAns (opBase x i era (cntC out x.client)) none := by rw [mkOp, hst]
              rw [hmk] at hgo
              have hl1 : out.length + 1 = (out ++ [opAns (opBase x i era (cntC out x.client)) none]).length := by simp
              refine qR ?_;iterate 2 refine rC ?_
              refine rQ iE ?_;iterate 2 refine rC ?_
              refine rO ?_;refine rC ?_;refine rO ?_;refine rC ?_;refine rO ?_;refine rQ (index_arr tab_ok rfl rfl rfl rfl rfl (by omega) hy') ?_;refine rO ?_;refine rC ?_;refine rO ?_
              refine rQ iL ?_;refine rO ?_;refine rC ?_;refine rQ iT ?_;refine nS ?_;refine wF ?_;refine wc_exit ?_;refine seq_x ?_;refine loop_x ?_;refine blk_x ?_;refine seq_n ?_
              refine wc_region ?_;refine rC ?_;refine rQ iM ?_;refine reg_new (build_slice (s := 41) tab_ok rfl rfl rfl rfl rfl rfl rfl rfl) rfl ?_;refine reg_new2 (append_one (enc := encOpn) (s := 41) (xs := out) tab_ok (opAns (opBase x i era (cntC out x.client)) none) rfl rfl rfl rfl rfl rfl rfl rfl rfl hal rfl) rfl ?_
              refine rC ?_;refine reg_nil ?_;refine blk_n ?_;refine seq_n ?_;refine wc_region ?_;refine rC ?_;refine rQ iD ?_;refine rC ?_;refine reg_nil ?_
              exact loop_n (i + 1, out ++ [opAns (opBase x i era (cntC out x.client)) none], era) [(65, some _)] ⟨hlt, by simp; omega, by simp only; omega, by simp only; omega, by simp only [hn']; exact hgo⟩ (by show h.length - (i + 1) < h.length - i; omega) (.of rfl rfl rfl rfl rfl ⟨⟨_, rfl, .refl _⟩, rfl, ⟨_, rfl, .refl _⟩, rfl, ⟨_, rfl, AVLe.of_eq (congrArg (fun n => AV.own _ 0 n 41 none) hl1)⟩, rfl, ⟨_, rfl, .refl _⟩, rfl, trivial⟩ ⟨⟨rfl, rfl, _, rfl, .refl _⟩, trivial⟩)
            · have dy : (!decide (y.kind = 3)) = true := by rw [decide_eq_false y3]; rfl
              rw [if_neg y3] at hst
              by_cases yc : y.client = x.client
              · have dc : decide (y.client = x.client) = true := decide_eq_true yc
                rw [if_pos yc] at hst
                have hmk : mkOp h i x out era = opAns (opBase x i era (cntC out x.client)) (some (k, y)) := by rw [mkOp, hst]
                rw [hmk] at hgo
                have hl1 : out.length + 1 = (out ++ [opAns (opBase x i era (cntC out x.client)) (some (k, y))]).length := by simp
                refine qR ?_;iterate 2 refine rC ?_
                refine rQ iE ?_;iterate 2 refine rC ?_
                refine rO ?_;refine rC ?_;refine rO ?_;refine rC ?_;refine rO ?_;refine rQ (index_arr tab_ok rfl rfl rfl rfl rfl (by omega) hy') ?_;refine rO ?_;refine rC ?_;refine rO ?_
                refine rQ iL ?_;refine rO ?_;refine rC ?_;refine rQ iT ?_;refine nS ?_;refine wT ?_;refine kS ?_;refine wc_seq ?_;refine wc_block ?_;refine wc_seq ?_;refine wc_draw (by kernel_rfl) ?_
                refine dC [0] [] ?_;refine dC [8] [] ?_;refine dQ [76, 77] [] (index_arr tab_ok rfl rfl rfl rfl rfl (by omega) hy') ?_;refine dC [78] [] ?_;refine dQ [79] [] iL ?_
                refine dC [6] [] ?_;refine dQ [81] [66] iB ?_;refine dC [80, 82] [] ?_;refine dreg_end (by kernel_rfl) ?_;refine seq_n ?_;refine wT ?_;refine sR ?_;iterate 2 refine rC ?_
                refine rX ?_;refine nR ?_;iterate 2 refine rC ?_
                refine rQ (index_arr tab_ok rfl rfl rfl rfl rfl (by omega) hy') ?_;refine rC ?_;refine rQ iL ?_;refine rC ?_;refine rX ?_;refine nR ?_;iterate 2 refine rC ?_
                refine rQ (index_arr tab_ok rfl rfl rfl rfl rfl (by omega) hy') ?_;refine rC ?_;refine rQ iL ?_;refine rC ?_;refine rX ?_;refine nS ?_;refine wc_exit ?_;refine blk_y rfl ?_
                refine seq_x ?_;refine loop_x ?_;refine blk_x ?_;refine seq_n ?_;refine wc_region ?_;refine rC ?_;refine rQ iM ?_;refine reg_new (build_slice (s := 41) tab_ok rfl rfl rfl rfl rfl rfl rfl rfl) rfl ?_
                refine reg_new2 (append_one (enc := encOpn) (s := 41) (xs := out) tab_ok (opAns (opBase x i era (cntC out x.client)) (some (k, y))) rfl rfl rfl rfl rfl rfl rfl rfl rfl hal rfl) rfl ?_
                refine rC ?_;refine reg_nil ?_;refine blk_n ?_;refine seq_n ?_;refine wc_region ?_;refine rC ?_;refine rQ iD ?_;refine rC ?_;refine reg_nil ?_
                exact loop_n (i + 1, out ++ [opAns (opBase x i era (cntC out x.client)) (some (k, y))], era) [(65, some _)] ⟨hlt, by simp; omega, by simp only; omega, by simp only; omega, by simp only [hn']; exact hgo⟩ (by show h.length - (i + 1) < h.length - i; omega) (.of rfl rfl rfl rfl rfl ⟨⟨_, rfl, .refl _⟩, rfl, ⟨_, rfl, .refl _⟩, rfl, ⟨_, rfl, AVLe.of_eq (congrArg (fun n => AV.own _ 0 n 41 none) hl1)⟩, rfl, ⟨_, rfl, .refl _⟩, rfl, trivial⟩ ⟨⟨rfl, rfl, _, rfl, .refl _⟩, trivial⟩)
              · have dc : decide (y.client = x.client) = false := decide_eq_false yc
                rw [if_neg yc] at hst
                refine qR ?_;iterate 2 refine rC ?_
                refine rQ iE ?_;iterate 2 refine rC ?_
                refine rO ?_;refine rC ?_;refine rO ?_;refine rC ?_;refine rO ?_;refine rQ (index_arr tab_ok rfl rfl rfl rfl rfl (by omega) hy') ?_;refine rO ?_;refine rC ?_;refine rO ?_
                refine rQ iL ?_;refine rO ?_;refine rC ?_;refine rQ iT ?_;refine nS ?_;refine wT ?_;refine kS ?_;refine wc_seq ?_;refine wc_block ?_;refine wc_seq ?_;refine wc_draw (by kernel_rfl) ?_
                refine dC [0] [] ?_;refine dC [8] [] ?_;refine dQ [76, 77] [] (index_arr tab_ok rfl rfl rfl rfl rfl (by omega) hy') ?_;refine dC [78] [] ?_;refine dQ [79] [] iL ?_
                refine dC [6] [] ?_;refine dQ [81] [66] iB ?_;refine dC [80, 82] [] ?_;refine dreg_end (by kernel_rfl) ?_;refine seq_n ?_;refine wF ?_;refine wc_skip ?_;refine blk_n ?_
                refine seq_n ?_;refine wc_region ?_;refine rC ?_;refine rQ iD ?_;refine rC ?_;refine reg_nil ?_
                exact loop_n (k + 1) [(65, some 65), (66, some 66)] ⟨hkl, hst.symm⟩ (by omega) (.of rfl rfl rfl rfl rfl ⟨⟨_, rfl, .refl _⟩, rfl, ⟨_, rfl, .refl _⟩, rfl, ⟨_, rfl, .refl _⟩, rfl, ⟨_, rfl, .refl _⟩, rfl, ⟨_, rfl, .refl _⟩, rfl, ⟨_, rfl, .refl _⟩, rfl, trivial⟩ ⟨⟨rfl, rfl, _, rfl, .refl _⟩, ⟨rfl, rfl, _, rfl, .refl _⟩, trivial⟩)
          · have d66 : decide ((k : Int) < (h.length : Int)) = false := decide_eq_false (by omega)
            have hst : retOf x.client (h.drop (i + 1)) (i + 1) = none := by rw [← hret, List.drop_eq_nil_of_le (by omega)]; rfl
            have hmk : mkOp h i x out era = opAns (opBase x i era (cntC out x.client)) none := by rw [mkOp, hst]
            rw [hmk] at hgo
            have hl1 : out.length + 1 = (out ++ [opAns (opBase x i era (cntC out x.client)) none]).length := by simp
            refine qR ?_;iterate 2 refine rC ?_
            refine rQ iE ?_;iterate 2 refine rC ?_
            iterate 6 refine rS ?_
            refine rQ iF ?_;refine nS ?_;refine wG ?_;refine wc_exit ?_;refine seq_x ?_;refine loop_x ?_;refine blk_x ?_;refine seq_n ?_;refine wc_region ?_;refine rC ?_;refine rQ iM ?_
            refine reg_new (build_slice (s := 41) tab_ok rfl rfl rfl rfl rfl rfl rfl rfl) rfl ?_;refine reg_new2 (append_one (enc := encOpn) (s := 41) (xs := out) tab_ok (opAns (opBase x i era (cntC out x.client)) none) rfl rfl rfl rfl rfl rfl rfl rfl rfl hal rfl) rfl ?_
            refine rC ?_;refine reg_nil ?_;refine blk_n ?_;refine seq_n ?_;refine wc_region ?_;refine rC ?_;refine rQ iD ?_;refine rC ?_;refine reg_nil ?_
            exact loop_n (i + 1, out ++ [opAns (opBase x i era (cntC out x.client)) none], era) [(65, some _)] ⟨hlt, by simp; omega, by simp only; omega, by simp only; omega, by simp only [hn']; exact hgo⟩ (by show h.length - (i + 1) < h.length - i; omega) (.of rfl rfl rfl rfl rfl ⟨⟨_, rfl, .refl _⟩, rfl, ⟨_, rfl, .refl _⟩, rfl, ⟨_, rfl, AVLe.of_eq (congrArg (fun n => AV.own _ 0 n 41 none) hl1)⟩, rfl, ⟨_, rfl, .refl _⟩, rfl, trivial⟩ ⟨⟨rfl, rfl, _, rfl, .refl _⟩, trivial⟩)
      · have d1 : (!decide (x.kind = 1)) = true := by rw [decide_eq_false k1]; rfl
        rw [if_neg k1] at hgo
        refine kS ?_;refine wc_seq ?_;refine wc_block ?_;refine qR ?_;iterate 2 refine rC ?_
        refine rQ (index_arr tab_ok rfl rfl rfl rfl rfl (by omega) hx') ?_;refine rC ?_;refine rQ iL ?_;refine rC ?_;refine nS ?_;refine wF ?_;refine kS ?_;refine qR ?_
        iterate 2 refine rC ?_
        refine rQ (index_arr tab_ok rfl rfl rfl rfl rfl (by omega) hx') ?_;refine rC ?_;refine rQ iL ?_;refine rC ?_;refine nS ?_;refine wT ?_;refine wc_exit ?_;refine seq_x ?_
        refine blk_x ?_;refine seq_n ?_;refine wc_region ?_;refine rC ?_;refine rQ iD ?_;refine rC ?_;refine reg_nil ?_
        exact loop_n (i + 1, out, era) [(65, some 65)] ⟨hlt, by simp only; omega, by simp only; omega, by simp only; omega, by simp only [hn']; exact hgo⟩ (by show h.length - (i + 1) < h.length - i; omega) (.of rfl rfl rfl rfl rfl ⟨⟨_, rfl, .refl _⟩, rfl, ⟨_, rfl, .refl _⟩, rfl, ⟨_, rfl, .refl _⟩, rfl, ⟨_, rfl, .refl _⟩, rfl, trivial⟩ ⟨⟨rfl, rfl, _, rfl, .refl _⟩, trivial⟩)
  · have hi2 : i = h.length := by have := of_decide_eq_false h2; omega
    subst hi2
    rw [Nat.sub_self] at hgo
    rw [← hgo]
    refine wc_exit ?_;refine seq_x ?_;refine loop_x ?_;refine blk_x ?_;refine seq_n ?_;refine sR ?_;iterate 2 refine rC ?_
    refine nS ?_;refine wc_ret ?_
    exact ⟨trivial, [(64, some _)], .of rfl rfl rfl rfl rfl ⟨⟨_, rfl, AVLe.of_eq rfl⟩, rfl, trivial⟩ ⟨⟨rfl, rfl, _, rfl, .refl _⟩, trivial⟩⟩
theorem rops_is (h : List HEv) (hL : h.length ≤ 1000000) : FnIs Tryz.prog 27 [.d (encH h)] [] (.d (encOps (opsR h))) [] := (rops_own h hL).freeze_out 64 _ rfl (Frz.own rfl) trivial
end Go.Proofs.YtmojbghcngdkpaaGreatDoor

namespace Go.Proofs.YtmojbghcngdkpaaGreatDoor
open Go.Eng Go.Plain
set_option maxHeartbeats 8000000
set_option maxRecDepth 20000
attribute [local irreducible] WC RegS RegD SeqQ BlkQ ScoQ RegK CutK Sat SatN FnIs LoopQ StepIs OpIs
def blkB (d : UInt8) : UInt8 := (d.toNat % 4).toUInt8
end Go.Proofs.YtmojbghcngdkpaaGreatDoor

namespace Go.Proofs.YtmojbghcngdkpaaGreatDoor
open Go.Eng Go.Plain
set_option maxHeartbeats 8000000
set_option maxRecDepth 20000
attribute [local irreducible] WC RegS RegD SeqQ BlkQ ScoQ RegK CutK Sat SatN FnIs LoopQ StepIs OpIs
structure XE where
  who : UInt8
  what : UInt8
  data : UInt8
def encXE (x : XE) : D := .cons (u8s x.who.toNat) (.cons (u8s x.what.toNat) (.cons (u8s x.data.toNat) .nil))
def opX (x : XE) : POp :=
  if x.what.toNat % 8 < 3 then ⟨1, ((x.data.toNat / 4 % 3 : Nat) : Int), []⟩
  else if x.what.toNat % 8 < 6 then ⟨2, ((x.data.toNat / 4 % 3 : Nat) : Int), List.replicate 32 (blkB x.data)⟩
  else if x.what.toNat % 8 = 6 then ⟨3, 0, []⟩
  else qOf ⟨8, x.data, x.what⟩
end Go.Proofs.YtmojbghcngdkpaaGreatDoor

namespace Go.Proofs.YtmojbghcngdkpaaGreatDoor
open Go.Eng Go.Plain
set_option maxHeartbeats 8000000
set_option maxRecDepth 20000
attribute [local irreducible] WC RegS RegD SeqQ BlkQ ScoQ RegK CutK Sat SatN FnIs LoopQ StepIs OpIs
def encXH (l : List XE) : D := .cons (.arr 3 encXE l) .nil
def errs8 : List Int := [0, 0, 0, 0, 0, 1, 8, 9]
def errX (y : HEv) (x : XE) : Int := if badO y.op 3 && decide (x.what.toNat < 200) then 1 else errs8[x.what.toNat % 8]?.getD 0
def stepX (out : List HEv) (x : XE) : List HEv :=
  if x.who.toNat % 4 = 3 ∧ x.what.toNat ≤ 20 then out ++ [⟨3, 0, zOp, zBk, 0⟩]
  else if pend out ((x.who.toNat % 4 % 3 : Nat) : Int) < 0 then out ++ [⟨1, ((x.who.toNat % 4 % 3 : Nat) : Int), opX x, zBk, 0⟩]
  else match out[(pend out ((x.who.toNat % 4 % 3 : Nat) : Int)).toNat]? with
    | none => out
    | some y => out ++ [⟨2, ((x.who.toNat % 4 % 3 : Nat) : Int), zOp, if y.op.kind = 1 ∧ errX y x = 0 then List.replicate 32 (blkB x.data) else zBk, errX y x⟩]
def hOf (l : List XE) : List HEv := (l.take 24).foldl stepX []
theorem zev_le (k c e : Int) : DLe (.cons (u8s k) (.cons (i6 c) (.cons zPOp (.cons (.vec 32 1 encU8 (List.replicate 32 0)) (.cons (i6 e) .nil))))) (encEv ⟨k, c, zOp, zBk, e⟩) := by
  rintro w X cs ⟨c1, r1, rfl, h1, c2, r2, rfl, h2, c3, r3, rfl, h3, h4⟩
  exact ⟨c1, _, rfl, h1, c2, _, rfl, h2, c3, _, rfl, zop_le _ _ _ h3, h4⟩
end Go.Proofs.YtmojbghcngdkpaaGreatDoor

namespace Go.Proofs.YtmojbghcngdkpaaGreatDoor
open Go.Eng Go.Plain
set_option maxHeartbeats 8000000
set_option maxRecDepth 20000
attribute [local irreducible] WC RegS RegD SeqQ BlkQ ScoQ RegK CutK Sat SatN FnIs LoopQ StepIs OpIs
theorem byI_pairs : ∀ (l : List UInt8), ∃ t : List UInt8, byI t = pairsV l
  | [] => ⟨[], rfl⟩
  | [a] => ⟨[(nibV a).toUInt8], by
    have := nibV_lt a
    simp only [byI, pairsV, List.map_cons, List.map_nil, Nat.toUInt8_eq, UInt8.toNat_ofNat']
    rw [Nat.mod_eq_of_lt (by omega)]⟩
  | a :: b :: l => by
    obtain ⟨t, ht⟩ := byI_pairs l
    have h1 := nibV_lt a
    have h2 := nibV_lt b
    refine ⟨(nibV a * 16 + nibV b).toUInt8 :: t, ?_⟩
    rw [pairsV, ← ht]
    simp only [byI, List.map_cons, Nat.toUInt8_eq, UInt8.toNat_ofNat']
    rw [Nat.mod_eq_of_lt (by omega)]
theorem byI_uX (m : Nat) (s : List UInt8) (i : Nat) : ∃ t : List UInt8, byI t = uX m s i := by
  obtain ⟨t, ht⟩ := byI_pairs (s.take i)
  refine ⟨t ++ List.replicate (m - (i + 1) / 2) 0, ?_⟩
  rw [uX, ← ht]
  simp [byI]
abbrev blkR (v : List UInt8) (b : Bool) : AV := .tup (.acons (.d (encBk v)) (.acons (.bool b) .anil))
theorem block_short (s : List UInt8) (hs : s.length ≠ 64) (hL : s.length ≤ 9223372036854775807) : FnIs Tryz.prog 119 [.d (strD s)] [] (blkR zBk false) [] := by
  have h0 : (!decide ((s.length : Int) = 64)) = true := by rw [decide_eq_false (by omega)]; rfl
  refine fnIs_of tab_ok Tryz.func119 rfl rfl rfl ?_;refine sR ?_;refine rN ?_;refine rC ?_;refine nQ ?_;refine sR ?_;refine rC ?_;refine rQ (len_s tab_ok rfl rfl) ?_
  refine rC ?_;refine nS ?_;refine wT ?_;refine sR ?_;refine rQ iM ?_;refine rW ?_;refine rC ?_;refine nS ?_;refine wc_ret ?_;refine seq_r ?_
  exact ⟨trivial, _, rfl, [], lf⟩
theorem block_ok (s : List UInt8) (hs : s.length = 2 * 32) (hall : ∀ c ∈ s, 0 ≤ Lib.indexByte hexD c) (t : List UInt8) (ht : byI t = pairsV s) : FnIs Tryz.prog 119 [.d (strD s)] [] (blkR t true) [] := by
  have h0 : (!decide ((s.length : Int) = 64)) = false := by rw [decide_eq_true (by omega)]; rfl
  refine fnIs_of tab_ok Tryz.func119 rfl rfl rfl ?_;refine sR ?_;refine rN ?_;refine rC ?_;refine nQ ?_;refine sR ?_;refine rC ?_;refine rQ (len_s tab_ok rfl rfl) ?_
  refine rC ?_;refine nS ?_;refine wF ?_;refine kS ?_;refine qR ?_;refine rC ?_;refine reg_new (range_str tab_ok rfl rfl) rfl ?_;refine nS ?_;refine wc_block ?_
  refine wc_inv (fun i : Nat => ⟨[(11, .ptr 66 []), (2, .ptr 65 []), (0, .d (strD s))], [(65, some (.box 52 (.d (.vec 32 1 encU8 (uX 32 s i))))), (66, some (.si (mkS s) i))], 72, Tryz.f119.ntmps, 64⟩) (fun i => i ≤ s.length) (fun i => s.length - i) 0 [(65, some 64), (66, some 112)] (Nat.zero_le _)
    (.of rfl rfl rfl rfl rfl ⟨⟨_, rfl, .refl _⟩, rfl, ⟨_, rfl, .refl _⟩, rfl, ⟨_, rfl, .refl _⟩, rfl, trivial⟩ ⟨⟨rfl, rfl, _, rfl, RowLe.of_eq (by rw [uX_zero]; rfl)⟩, ⟨rfl, rfl, _, rfl, .refl _⟩, trivial⟩) ?_
  intro i hi
  refine wc_of ?_
  by_cases hlt : i < s.length
  · obtain ⟨c, hc⟩ : ∃ c, s[i]? = some c := ⟨_, List.getElem?_eq_getElem hlt⟩
    have hib : FnIs Tryz.prog 143 [.d (strD hexD), .int .u8 c.toNat] [] (.int .i64 (Lib.indexByte hexD c)) [] := by
      have := ib_is (l := hexD) (c := (c.toNat : Int))
      rwa [show ((c.toNat : Int)).toNat.toUInt8 = c by simp] at this
    have hneg : ¬ Lib.indexByte hexD c < 0 := by have := hall c (List.mem_of_getElem? hc); omega
    have hd : decide (Lib.indexByte hexD c < 0) = false := decide_eq_false hneg
    obtain ⟨x, hx1, hx2, hx3⟩ := uX_step hc hs
    replace hx2 : (uX 32 s i)[(((i / 2 : Nat) : Int)).toNat]? = some (x : Int) := by rw [Int.toNat_natCast]; exact hx2
    have hn16 := nibV_lt c
    have hwi : IntKind.i64.wrap ((i / 2 : Nat) : Int) = ((i / 2 : Nat) : Int) := wrap_i64 (by omega) (by omega)
    have hw1 : IntKind.u8.wrap ((x : Int) * 16) = ((x * 16 : Nat) : Int) := wrap_u8n (a := x * 16) (by omega)
    have hw2 : IntKind.u8.wrap (Lib.indexByte hexD c) = (nibV c : Int) := by
      rw [show Lib.indexByte hexD c = (nibV c : Int) by unfold nibV; omega]
      exact wrap_u8n (by omega)
    have hw3 : IntKind.u8.wrap (((x * 16 : Nat) : Int) + (nibV c : Int)) = ((x * 16 + nibV c : Nat) : Int) := wrap_u8n (a := x * 16 + nibV c) (by omega)
    have hlow := decode_low (i := i) hc (hexD_low (by omega))
    refine sR ?_;refine reg_new (next_str rfl rfl (by omega)) rfl ?_;refine rC ?_;refine nQ ?_;refine wV ?_;refine kS ?_;refine wc_block ?_;refine sR ?_;iterate 2 refine rC ?_
    refine nR ?_;iterate 2 refine rC ?_
    refine rQ (index_s (l := s) (m := i) tab_ok rfl rfl rfl hc) ?_;refine rQ (call_r hib rfl rfl (arg_e (arg_e arg_nil)) (.inl rfl) (fun _ => rfl)) ?_;refine rC ?_;refine nQ ?_
    refine sR ?_;iterate 2 refine rC ?_
    refine nS ?_;refine wF ?_;refine kS ?_;refine wc_region ?_;refine rC ?_;refine rQ (quo_nat (a := i) (b := 2) tab_ok rfl rfl rfl (by decide) hwi) ?_;refine rC ?_
    refine rQ (quo_nat (a := i) (b := 2) tab_ok rfl rfl rfl (by decide) hwi) ?_;refine rQ (step_C tab_ok (fun K hk => ⟨by omega, by omega, hk⟩)) ?_;refine rQ (load_box tab_ok rfl rfl ⟨_, ⟨rfl, _, hx2, rfl⟩, rfl⟩ rfl) ?_
    refine rQ (mul_int (m := ((x * 16 : Nat) : Int)) tab_ok rfl rfl hw1) ?_;refine rC ?_;refine rQ (conv_int (m := (nibV c : Int)) tab_ok rfl rfl rfl hw2) ?_;refine rQ (add_int (m := ((x * 16 + nibV c : Nat) : Int)) tab_ok rfl rfl hw3) ?_
    refine rQ (step_C tab_ok (fun K hk => ⟨by omega, by omega, hk⟩)) ?_;refine reg_store (store_row tab_ok rfl rfl rfl ⟨_, ⟨_, ⟨rfl, (x : Int), ((x * 16 + nibV c : Nat) : Int), hx2, ⟨rfl, rfl, rfl⟩, rfl⟩, rfl⟩, rfl⟩ rfl) ?_
    refine reg_nil ?_;refine blk_n ?_
    exact loop_n (i + 1) [] hlt (by omega) (.of rfl rfl rfl rfl rfl ⟨⟨_, rfl, .refl _⟩, rfl, ⟨_, rfl, .refl _⟩, rfl, ⟨_, rfl, .refl _⟩, rfl, trivial⟩ ⟨⟨rfl, rfl, _, rfl, RowLe.of_eq (congrArg (fun l => Row.box 52 (.d (.vec 32 1 encU8 l))) hx3)⟩, ⟨rfl, rfl, _, rfl, RowLe.of_eq (by rw [hlow]; rfl)⟩, trivial⟩)
  · have he : i = s.length := by omega
    subst he
    have hE : uX 32 s s.length = byI t := by
      rw [uX, List.take_length, ht, show 32 - (s.length + 1) / 2 = 0 by omega]; simp
    rw [hE]
    refine sR ?_;refine rQ (next_end rfl rfl (by omega)) ?_;refine rC ?_;refine nQ ?_;refine wG ?_;refine wc_exit ?_;refine seq_x ?_;refine loop_x ?_;refine blk_x ?_
    refine seq_n ?_;refine sR ?_;refine rQ iM ?_;refine rW ?_;refine rC ?_;refine nS ?_;refine wc_ret ?_
    exact ⟨trivial, _, rfl, [], lf⟩
theorem first_bad (s : List UInt8) (h : ¬ ∀ c ∈ s, 0 ≤ Lib.indexByte hexD c) : ∃ (j : Nat) (c : UInt8), s[j]? = some c ∧ Lib.indexByte hexD c < 0 ∧ ∀ i, i < j → ∀ b, s[i]? = some b → 0 ≤ Lib.indexByte hexD b := by
  induction s with
  | nil => exact absurd (fun c hc => by cases hc) h
  | cons a s ih =>
    by_cases ha : Lib.indexByte hexD a < 0
    · exact ⟨0, a, rfl, ha, fun i hi => absurd hi (Nat.not_lt_zero _)⟩
    · have hs : ¬ ∀ c ∈ s, 0 ≤ Lib.indexByte hexD c := fun hs => h fun c hc => by
        rcases List.mem_cons.1 hc with rfl | hc
        · omega
        · exact hs c hc
      obtain ⟨j, c, h1, h2, h3⟩ := ih hs
      refine ⟨j + 1, c, by simpa using h1, h2, fun i hi b hb => ?_⟩
      cases i with
      | zero => simp at hb; subst hb; omega
      | succ i => exact h3 i (by omega) b (by simpa using hb)
theorem block_bad (s : List UInt8) (hs : s.length = 2 * 32) (j : Nat) (cj : UInt8) (hj : s[j]? = some cj) (hcj : Lib.indexByte hexD cj < 0) (hbef : ∀ i, i < j → ∀ b, s[i]? = some b → 0 ≤ Lib.indexByte hexD b) (t : List UInt8) (ht : byI t = uX 32 s j) : FnIs Tryz.prog 119 [.d (strD s)] [] (blkR t false) [] := by
  have h0 : (!decide ((s.length : Int) = 64)) = false := by rw [decide_eq_true (by omega)]; rfl
  have hjl := (List.getElem?_eq_some_iff.1 hj).1
  refine fnIs_of tab_ok Tryz.func119 rfl rfl rfl ?_;refine sR ?_;refine rN ?_;refine rC ?_;refine nQ ?_;refine sR ?_;refine rC ?_;refine rQ (len_s tab_ok rfl rfl) ?_
  refine rC ?_;refine nS ?_;refine wF ?_;refine kS ?_;refine qR ?_;refine rC ?_;refine reg_new (range_str tab_ok rfl rfl) rfl ?_;refine nS ?_;refine wc_block ?_
  refine wc_inv (fun i : Nat => ⟨[(11, .ptr 66 []), (2, .ptr 65 []), (0, .d (strD s))], [(65, some (.box 52 (.d (.vec 32 1 encU8 (uX 32 s i))))), (66, some (.si (mkS s) i))], 72, Tryz.f119.ntmps, 64⟩) (fun i => i ≤ j) (fun i => s.length - i) 0 [(65, some 64), (66, some 112)] (Nat.zero_le _)
    (.of rfl rfl rfl rfl rfl ⟨⟨_, rfl, .refl _⟩, rfl, ⟨_, rfl, .refl _⟩, rfl, ⟨_, rfl, .refl _⟩, rfl, trivial⟩ ⟨⟨rfl, rfl, _, rfl, RowLe.of_eq (by rw [uX_zero]; rfl)⟩, ⟨rfl, rfl, _, rfl, .refl _⟩, trivial⟩) ?_
  intro i hi
  refine wc_of ?_
  have hlt : i < s.length := by omega
  by_cases hij : i < j
  · obtain ⟨c, hc⟩ : ∃ c, s[i]? = some c := ⟨_, List.getElem?_eq_getElem hlt⟩
    have hib : FnIs Tryz.prog 143 [.d (strD hexD), .int .u8 c.toNat] [] (.int .i64 (Lib.indexByte hexD c)) [] := by
      have := ib_is (l := hexD) (c := (c.toNat : Int))
      rwa [show ((c.toNat : Int)).toNat.toUInt8 = c by simp] at this
    have hneg : ¬ Lib.indexByte hexD c < 0 := by have := hbef i hij c hc; omega
    have hd : decide (Lib.indexByte hexD c < 0) = false := decide_eq_false hneg
    obtain ⟨x, hx1, hx2, hx3⟩ := uX_step hc hs
    replace hx2 : (uX 32 s i)[(((i / 2 : Nat) : Int)).toNat]? = some (x : Int) := by rw [Int.toNat_natCast]; exact hx2
    have hn16 := nibV_lt c
    have hwi : IntKind.i64.wrap ((i / 2 : Nat) : Int) = ((i / 2 : Nat) : Int) := wrap_i64 (by omega) (by omega)
    have hw1 : IntKind.u8.wrap ((x : Int) * 16) = ((x * 16 : Nat) : Int) := wrap_u8n (a := x * 16) (by omega)
    have hw2 : IntKind.u8.wrap (Lib.indexByte hexD c) = (nibV c : Int) := by
      rw [show Lib.indexByte hexD c = (nibV c : Int) by unfold nibV; omega]
      exact wrap_u8n (by omega)
    have hw3 : IntKind.u8.wrap (((x * 16 : Nat) : Int) + (nibV c : Int)) = ((x * 16 + nibV c : Nat) : Int) := wrap_u8n (a := x * 16 + nibV c) (by omega)
    have hlow := decode_low (i := i) hc (hexD_low (by omega))
    refine sR ?_;refine reg_new (next_str rfl rfl (by omega)) rfl ?_;refine rC ?_;refine nQ ?_;refine wV ?_;refine kS ?_;refine wc_block ?_;refine sR ?_;iterate 2 refine rC ?_
    refine nR ?_;iterate 2 refine rC ?_
    refine rQ (index_s (l := s) (m := i) tab_ok rfl rfl rfl hc) ?_;refine rQ (call_r hib rfl rfl (arg_e (arg_e arg_nil)) (.inl rfl) (fun _ => rfl)) ?_;refine rC ?_;refine nQ ?_
    refine sR ?_;iterate 2 refine rC ?_
    refine nS ?_;refine wF ?_;refine kS ?_;refine wc_region ?_;refine rC ?_;refine rQ (quo_nat (a := i) (b := 2) tab_ok rfl rfl rfl (by decide) hwi) ?_;refine rC ?_
    refine rQ (quo_nat (a := i) (b := 2) tab_ok rfl rfl rfl (by decide) hwi) ?_;refine rQ (step_C tab_ok (fun K hk => ⟨by omega, by omega, hk⟩)) ?_;refine rQ (load_box tab_ok rfl rfl ⟨_, ⟨rfl, _, hx2, rfl⟩, rfl⟩ rfl) ?_
    refine rQ (mul_int (m := ((x * 16 : Nat) : Int)) tab_ok rfl rfl hw1) ?_;refine rC ?_;refine rQ (conv_int (m := (nibV c : Int)) tab_ok rfl rfl rfl hw2) ?_;refine rQ (add_int (m := ((x * 16 + nibV c : Nat) : Int)) tab_ok rfl rfl hw3) ?_
    refine rQ (step_C tab_ok (fun K hk => ⟨by omega, by omega, hk⟩)) ?_;refine reg_store (store_row tab_ok rfl rfl rfl ⟨_, ⟨_, ⟨rfl, (x : Int), ((x * 16 + nibV c : Nat) : Int), hx2, ⟨rfl, rfl, rfl⟩, rfl⟩, rfl⟩, rfl⟩ rfl) ?_
    refine reg_nil ?_;refine blk_n ?_
    exact loop_n (i + 1) [] hij (by omega) (.of rfl rfl rfl rfl rfl ⟨⟨_, rfl, .refl _⟩, rfl, ⟨_, rfl, .refl _⟩, rfl, ⟨_, rfl, .refl _⟩, rfl, trivial⟩ ⟨⟨rfl, rfl, _, rfl, RowLe.of_eq (congrArg (fun l => Row.box 52 (.d (.vec 32 1 encU8 l))) hx3)⟩, ⟨rfl, rfl, _, rfl, RowLe.of_eq (by rw [hlow]; rfl)⟩, trivial⟩)
  · have he : i = j := by omega
    subst he
    have hc := hj
    obtain ⟨c, rfl⟩ : ∃ c, cj = c := ⟨_, rfl⟩
    have hib : FnIs Tryz.prog 143 [.d (strD hexD), .int .u8 cj.toNat] [] (.int .i64 (Lib.indexByte hexD cj)) [] := by
      have := ib_is (l := hexD) (c := (cj.toNat : Int))
      rwa [show ((cj.toNat : Int)).toNat.toUInt8 = cj by simp] at this
    have hd : decide (Lib.indexByte hexD cj < 0) = true := decide_eq_true hcj
    rw [← ht]
    refine sR ?_;refine reg_new (next_str rfl rfl (by omega)) rfl ?_;refine rC ?_;refine nQ ?_;refine wV ?_;refine kS ?_;refine wc_block ?_;refine sR ?_;iterate 2 refine rC ?_
    refine nR ?_;iterate 2 refine rC ?_
    refine rQ (index_s (l := s) (m := i) tab_ok rfl rfl rfl hc) ?_;refine rQ (call_r hib rfl rfl (arg_e (arg_e arg_nil)) (.inl rfl) (fun _ => rfl)) ?_;refine rC ?_;refine nQ ?_
    refine sR ?_;iterate 2 refine rC ?_
    refine nS ?_;refine wT ?_;refine sR ?_;refine rQ iM ?_;refine rW ?_;refine rC ?_;refine nS ?_;refine wc_ret ?_;refine seq_r ?_;refine blk_r ?_;refine loop_r ?_;refine blk_r ?_
    refine seq_r ?_
    exact ⟨trivial, _, rfl, [], lf⟩
theorem block_none (s : List UInt8) (h : blockP s = none) (hL : s.length ≤ 9223372036854775807) : ∃ v : List UInt8, FnIs Tryz.prog 119 [.d (strD s)] [] (blkR v false) [] := by
  by_cases hs : s.length = 64
  · by_cases hall : ∀ c ∈ s, 0 ≤ Lib.indexByte hexD c
    · obtain ⟨t, h1, h2⟩ := pairs_some s (by omega) hall
      rw [blockP, if_pos hs, h1] at h
      cases h
    · obtain ⟨j, c, h1, h2, h3⟩ := first_bad s hall
      obtain ⟨t, ht⟩ := byI_uX 32 s j
      exact ⟨t, block_bad s hs j c h1 h2 h3 t ht⟩
  · exact ⟨zBk, block_short s hs hL⟩
theorem block_some (s t : List UInt8) (h : blockP s = some t) : FnIs Tryz.prog 119 [.d (strD s)] [] (blkR t true) [] := by
  unfold blockP at h
  split at h
  · rename_i hs
    have hall : ∀ c ∈ s, 0 ≤ Lib.indexByte hexD c := fun c hc => by
      by_cases hn : Lib.indexByte hexD c < 0
      · rw [pairs_bad s c hc hn] at h; cases h
      · omega
    obtain ⟨t', h1, h2⟩ := pairs_some s (by omega) hall
    rw [h1] at h
    cases h
    exact block_ok s hs hall _ h2
  · cases h
end Go.Proofs.YtmojbghcngdkpaaGreatDoor

namespace Go.Proofs.YtmojbghcngdkpaaGreatDoor
open Go.Eng Go.Plain
set_option maxHeartbeats 8000000
set_option maxRecDepth 20000
attribute [local irreducible] WC RegS RegD SeqQ BlkQ ScoQ RegK CutK Sat SatN FnIs LoopQ StepIs OpIs
def textE (h : List HEv) : List UInt8 := h.flatMap fun x => lineE x ++ [10]
theorem textE_take {h : List HEv} {i : Nat} {x : HEv} (hx : h[i]? = some x) : textE (h.take (i + 1)) = textE (h.take i) ++ (lineE x ++ [10]) := by
  rw [List.take_add_one, hx]; simp [textE]
theorem textE_le (h : List HEv) (i : Nat) : (textE (h.take i)).length ≤ (textE h).length := by
  have := congrArg (fun l => (textE l).length) (List.take_append_drop i h)
  simp only [textE, List.flatMap_append, List.length_append] at this
  unfold textE
  omega
theorem htext_some (h : List HEv) (hne : h ≠ []) (hL : h.length ≤ 1000000) (hc0 : (chkH h).2 = 0) (hok : ∀ x ∈ h, x.Ok ∧ x.op.data.length ≤ 64) (hT : (textE h).length ≤ 1048576) : FnIs Tryz.prog 24 [.d (encH h)] [] (.tup (.acons (.d (strD (textE h))) (.acons (.d (i6 0)) .anil))) [] := by
  have hh : h.length ≤ 9223372036854775807 := by omega
  have d0 : (!decide ((chkH h).2 = 0)) = false := by rw [decide_eq_true hc0]; rfl
  refine fnIs_of tab_ok Tryz.func24 rfl rfl rfl ?_;refine sR ?_;iterate 2 refine rC ?_
  refine nQ ?_;refine sR ?_;refine rC ?_;refine rQ (call_r (hcheck_is h hh) rfl rfl (arg_e arg_nil) (.inl rfl) (fun _ => rfl)) ?_;iterate 5 refine rC ?_
  refine nR ?_;iterate 2 refine rC ?_
  refine nS ?_;refine wF ?_;refine kS ?_;refine sR ?_;refine rN ?_;refine nQ ?_;refine sR ?_;refine rC ?_;refine rQ iE ?_;refine rC ?_;refine nS ?_;refine wc_block ?_
  refine wc_inv (fun i : Nat => ⟨[(19, .int .i64 i), (18, .int .i64 h.length), (17, .d (encH h)), (6, .ptr 65 [])], [(65, some (bldRow (Nat.beq i 0) 65 66 (textE (h.take i)).length)), (66, some (rowT (textE (h.take i))))], 72, Tryz.f24.ntmps, 64⟩) (fun i => i ≤ h.length) (fun i => h.length - i) 0 [(65, some _), (66, none)] (Nat.zero_le _)
    (.of rfl rfl rfl rfl rfl ⟨⟨_, rfl, .refl _⟩, rfl, ⟨_, rfl, .refl _⟩, rfl, ⟨_, rfl, .refl _⟩, rfl, ⟨_, rfl, .refl _⟩, rfl, trivial⟩ ⟨⟨rfl, rfl, _, rfl, RowLe.split2⟩, ⟨rfl, rfl, rfl⟩, trivial⟩) ?_
  intro i hi
  refine wc_of ?_;refine sR ?_;refine rC ?_;refine nQ ?_
  refine wc_cond rfl (fun h3 => ?_) (fun h3 => ?_)
  · have hlt : i < h.length := by have := of_decide_eq_true h3; omega
    obtain ⟨x, hx⟩ : ∃ x, h[i]? = some x := ⟨_, List.getElem?_eq_getElem hlt⟩
    have hx' : h[((i : Int)).toNat]? = some x := by rw [Int.toNat_natCast]; exact hx
    obtain ⟨hokx, hdx⟩ := hok x (List.mem_of_getElem? hx)
    have hs0 : 0 < (lineE x ++ [10]).length := by simp
    have hgo := textE_take hx
    have hle := textE_le h (i + 1)
    rw [hgo, List.length_append] at hle
    have hp1 : (textE (h.take i)).length + (lineE x ++ [10]).length ≤ 1048576 := by omega
    have hll : (lineE x).length + 1 ≤ 1048576 := by rw [List.length_append] at hp1; simp at hp1; omega
    have hl2 : (textE (h.take i)).length + (lineE x ++ [10]).length = (textE (h.take (i + 1))).length := by rw [hgo]; simp only [List.length_append]
    refine kS ?_;refine wc_seq ?_;refine wc_block ?_;refine sR ?_;refine rQ (index_arr tab_ok rfl rfl rfl rfl rfl (by omega) hx') ?_;refine rQ iL ?_;refine rN ?_;refine rW ?_
    refine nS ?_;refine wc_region ?_;refine rQ iM ?_;refine rQ (call_r (hline_is x hokx hdx) rfl rfl (arg_e arg_nil) (.inl rfl) (fun _ => rfl)) ?_
    refine rQ (add_str (a := lineE x) (b := [10]) rfl rfl (by simp; omega) rfl) ?_
    refine reg_do rfl (call_h [(0, some 65), (1, some 66)] (writestr_is (Nat.beq i 0) (textE (h.take i)) (lineE x ++ [10]) (textE (h.take i)).length rfl hs0 hp1) rfl rfl rfl (arg_ptr rfl rfl (arg_e arg_nil)) ⟨⟨rfl, (by cases Nat.beq i 0 <;> rfl), _, _, rfl, rfl, (by cases Nat.beq i 0 <;> exact .refl _)⟩, ⟨rfl, rfl, _, _, rfl, rfl, .refl _⟩, trivial⟩ rfl rfl (.inl rfl) rfl rfl) rfl rfl ?_
    refine reg_nil ?_;refine blk_n ?_;refine seq_n ?_;refine wc_region ?_;refine rQ iD ?_;refine rC ?_;refine reg_nil ?_
    exact loop_n (i + 1) [(66, some _)] hlt (by omega) (.of rfl rfl rfl rfl rfl ⟨⟨_, rfl, .refl _⟩, rfl, ⟨_, rfl, .refl _⟩, rfl, ⟨_, rfl, .refl _⟩, rfl, ⟨_, rfl, .refl _⟩, rfl, trivial⟩ ⟨⟨rfl, rfl, _, rfl, RowLe.of_eq (congrArg (bldRow false 65 _) hl2)⟩, ⟨rfl, rfl, _, rfl, RowLe.of_eq (congrArg rowT hgo.symm)⟩, trivial⟩)
  · have he : i = h.length := by have := of_decide_eq_false h3; omega
    subst he
    have hpos := List.length_pos_iff.2 hne
    have hnn : textE h ≠ [] := fun e => by
      obtain ⟨x, l, rfl⟩ := List.exists_cons_of_ne_nil hne
      simp [textE] at e
    have hbz : Nat.beq h.length 0 = false := by
      cases hz : Nat.beq h.length 0 with
      | false => rfl
      | true => have := Nat.eq_of_beq_eq_true hz; omega
    rw [hbz, List.take_length]
    refine wc_exit ?_;refine seq_x ?_;refine loop_x ?_;refine blk_x ?_;refine seq_n ?_;refine sR ?_;refine reg_new2 (call_h [(0, some 65), (1, some 66)] (bstring_is (textE h) (textE h).length rfl hnn hT) rfl rfl rfl (arg_ptr rfl rfl arg_nil) ⟨⟨rfl, rfl, _, _, rfl, rfl, .refl _⟩, ⟨rfl, rfl, _, _, rfl, rfl, .refl _⟩, trivial⟩ rfl rfl (.inl rfl) rfl rfl) rfl ?_
    iterate 2 refine rC ?_
    refine nS ?_;refine wc_ret ?_
    exact ⟨trivial, [], lf⟩
theorem htext_zero : FnIs Tryz.prog 24 [.d (encH [])] [] (.tup (.acons (.d (strD [])) (.acons (.d (i6 0)) .anil))) [] := by
  have hC := hcheck_is [] (by decide)
  rw [show chkH [] = (0, 0) from rfl] at hC
  refine fnIs_of tab_ok Tryz.func24 rfl rfl rfl ?_;refine sR ?_;iterate 2 refine rC ?_
  refine nQ ?_;refine sR ?_;refine rC ?_;refine rQ (call_r hC rfl rfl (arg_e arg_nil) (.inl rfl) (fun _ => rfl)) ?_;iterate 5 refine rC ?_
  refine nR ?_;iterate 2 refine rC ?_
  refine nS ?_;refine wG ?_;refine kS ?_;refine sR ?_;refine rN ?_;refine nQ ?_;refine sR ?_;refine rC ?_;refine rQ iE ?_;refine rC ?_;refine nS ?_;refine wc_block ?_
  refine wc_once ?_;refine sR ?_;refine rC ?_;refine nQ ?_;refine wG ?_;refine wc_exit ?_;refine seq_x ?_;refine loop_x ?_;refine blk_x ?_;refine seq_n ?_;refine sR ?_
  refine reg_new (call_h [(0, some _)] bstring_zero rfl rfl rfl (arg_ptr rfl rfl arg_nil) ⟨⟨rfl, rfl, _, _, rfl, rfl, .refl _⟩, trivial⟩ rfl rfl (.inl rfl) rfl rfl) rfl ?_
  iterate 2 refine rC ?_
  refine nS ?_;refine wc_ret ?_
  exact ⟨trivial, [], lf⟩
theorem htext_bad (h : List HEv) (hh : h.length ≤ 9223372036854775807) (h0 : (chkH h).2 ≠ 0) : FnIs Tryz.prog 24 [.d (encH h)] [] (.tup (.acons (.d (strD [])) (.acons (.int .i64 (chkH h).2) .anil))) [] := by
  have d0 : (!decide ((chkH h).2 = 0)) = true := by rw [decide_eq_false h0]; rfl
  have hC := hcheck_is h hh
  refine fnIs_of tab_ok Tryz.func24 rfl rfl rfl ?_;refine sR ?_;iterate 2 refine rC ?_
  refine nQ ?_;refine sR ?_;refine rC ?_;refine rQ (call_r hC rfl rfl (arg_e arg_nil) (.inl rfl) (fun _ => rfl)) ?_;iterate 5 refine rC ?_
  refine nR ?_;iterate 2 refine rC ?_
  refine nS ?_;refine wT ?_;refine sR ?_;iterate 3 refine rC ?_
  refine nS ?_;refine wc_ret ?_;refine seq_r ?_
  exact ⟨trivial, [], lf⟩
theorem htext_is (h : List HEv) (hh : h.length ≤ 9223372036854775807) (hL : (chkH h).2 = 0 → h.length ≤ 1000000) (hok : (chkH h).2 = 0 → ∀ x ∈ h, x.Ok ∧ x.op.data.length ≤ 64) (hT : (chkH h).2 = 0 → (textE h).length ≤ 1048576) : FnIs Tryz.prog 24 [.d (encH h)] [] (.tup (.acons (.d (strD (if (chkH h).2 = 0 then textE h else []))) (.acons (.int .i64 (chkH h).2) .anil))) [] := by
  by_cases h0 : (chkH h).2 = 0
  · rw [if_pos h0, h0]
    by_cases hn : h = []
    · subst hn; exact htext_zero
    · exact htext_some h hn (hL h0) h0 (hok h0) (hT h0)
  · rw [if_neg h0]
    exact htext_bad h hh h0
end Go.Proofs.YtmojbghcngdkpaaGreatDoor

namespace Go.Proofs.YtmojbghcngdkpaaGreatDoor
open Go.Eng Go.Plain
set_option maxHeartbeats 8000000
set_option maxRecDepth 20000
attribute [local irreducible] WC RegS RegD SeqQ BlkQ ScoQ RegK CutK Sat SatN FnIs LoopQ StepIs OpIs
abbrev evR2 (y : HEv) (b : Bool) : AV := .tup (.acons (.d (encEv y)) (.acons (.bool b) .anil))
theorem ev_le (k c e : Int) (b : Bool) : AVLe (.tup (.acons (.d (.cons (u8s k) (.cons (i6 c) (.cons zPOp (.cons (.vec 32 1 encU8 (List.replicate 32 0)) (.cons (i6 e) .nil)))))) (.acons (.bool b) .anil))) (evR2 ⟨k, c, zOp, zBk, e⟩ b) := AVLe.tup1 (AVLe.d (zev_le k c e) rfl) rfl
theorem ev_le2 (k c e : Int) (v : List UInt8) (b : Bool) : AVLe (.tup (.acons (.d (.cons (u8s k) (.cons (i6 c) (.cons zPOp (.cons (encBk v) (.cons (i6 e) .nil)))))) (.acons (.bool b) .anil))) (evR2 ⟨k, c, zOp, v, e⟩ b) := by
  refine AVLe.tup1 (AVLe.d ?_ rfl) rfl
  rintro w X cs ⟨c1, r1, rfl, h1, c2, r2, rfl, h2, c3, r3, rfl, h3, h4⟩
  exact ⟨c1, _, rfl, h1, c2, _, rfl, h2, c3, _, rfl, zop_le _ _ _ h3, h4⟩
theorem event_crash (s : List UInt8) (hs : s = sCrash) : FnIs Tryz.prog 73 [.d (strD s)] [] (evR2 crashE true) [] := by
  have d0 : decide (s = sCrash) = true := decide_eq_true hs
  refine fnIs_of tab_ok Tryz.func73 rfl rfl rfl ?_;refine sR ?_;refine rN ?_;refine rC ?_;refine nQ ?_;refine sR ?_;refine rC ?_;refine rQ (eql_s (a := s) (b := sCrash) tab_ok rfl rfl rfl) ?_
  refine nS ?_;refine wT ?_;refine sR ?_;refine rQ iS ?_;refine rW ?_;refine rC ?_;refine nS ?_;refine wc_ret ?_;refine seq_r ?_
  exact ⟨trivial, _, rfl, [], .of rfl rfl rfl rfl rfl ⟨⟨_, rfl, ev_le 3 0 0 true⟩, rfl, trivial⟩ trivial⟩
structure HeadIs (s kind r1 cl rest : List UInt8) (b1 b2 ok : Bool) (n : Int) : Prop where
  c1 : FnIs Tryz.prog 72 [.d (strD s), .d (strD [32])] [] (.tup (.acons (.d (strD kind)) (.acons (.d (strD r1)) (.acons (.bool b1) .anil)))) []
  c2 : FnIs Tryz.prog 72 [.d (strD r1), .d (strD [32])] [] (.tup (.acons (.d (strD cl)) (.acons (.d (strD rest)) (.acons (.bool b2) .anil)))) []
  a : FnIs Tryz.prog 118 [.d (strD cl)] [] (.tup (.acons (.int .i64 n) (.acons (erA ok) .anil))) []
theorem event_other (s kind r1 cl rest : List UInt8) (b1 b2 ok : Bool) (n : Int) (H : HeadIs s kind r1 cl rest b1 b2 ok n) (hs : s ≠ sCrash) (h1 : kind ≠ sInvoke) (h2 : kind ≠ sReturn) : FnIs Tryz.prog 73 [.d (strD s)] [] (evR2 ⟨0, n, zOp, zBk, 0⟩ false) [] := by
  have d0 : decide (s = sCrash) = false := decide_eq_false hs
  have d1 : decide (kind = sInvoke) = false := decide_eq_false h1
  have d2 : decide (kind = sReturn) = false := decide_eq_false h2
  obtain ⟨hc1, hc2, ha⟩ := H
  refine fnIs_of tab_ok Tryz.func73 rfl rfl rfl ?_
  cases ok with
  | false =>
    refine sR ?_;refine rN ?_;refine rC ?_;refine nQ ?_;refine sR ?_;refine rC ?_;refine rQ (eql_s (a := s) (b := sCrash) tab_ok rfl rfl rfl) ?_;refine nS ?_;refine wF ?_
    refine kS ?_;refine sR ?_;refine rC ?_;refine rQ (call_r hc1 rfl rfl (arg_e (arg_e arg_nil)) (.inl rfl) (fun _ => rfl)) ?_;iterate 7 refine rC ?_
    refine nR ?_;refine rC ?_;refine rQ (call_r hc2 rfl rfl (arg_e (arg_e arg_nil)) (.inl rfl) (fun _ => rfl)) ?_;iterate 7 refine rC ?_
    refine nR ?_;refine rC ?_;refine rQ (call_r ha rfl rfl (arg_e arg_nil) (.inl rfl) (fun _ => rfl)) ?_;iterate 5 refine rC ?_
    refine nR ?_;iterate 2 refine rC ?_
    refine rX ?_;refine nQ ?_;refine sR ?_;refine rC ?_;refine nS ?_;refine wc_block ?_;refine sR ?_;refine rQ (eql_s (a := kind) (b := sInvoke) tab_ok rfl rfl rfl) ?_
    refine rC ?_;refine nS ?_;refine wF ?_;refine sR ?_;refine rQ (eql_s (a := kind) (b := sReturn) tab_ok rfl rfl rfl) ?_;refine rC ?_;refine nS ?_;refine wF ?_;refine sR ?_
    refine rQ iM ?_;refine rW ?_;refine rC ?_;refine nS ?_;refine wc_ret ?_;refine blk_r ?_;refine seq_r ?_
    exact ⟨trivial, _, rfl, [], .of rfl rfl rfl rfl rfl ⟨⟨_, rfl, ev_le 0 n 0 false⟩, rfl, trivial⟩ trivial⟩
  | true =>
    refine sR ?_;refine rN ?_;refine rC ?_;refine nQ ?_;refine sR ?_;refine rC ?_;refine rQ (eql_s (a := s) (b := sCrash) tab_ok rfl rfl rfl) ?_;refine nS ?_;refine wF ?_
    refine kS ?_;refine sR ?_;refine rC ?_;refine rQ (call_r hc1 rfl rfl (arg_e (arg_e arg_nil)) (.inl rfl) (fun _ => rfl)) ?_;iterate 7 refine rC ?_
    refine nR ?_;refine rC ?_;refine rQ (call_r hc2 rfl rfl (arg_e (arg_e arg_nil)) (.inl rfl) (fun _ => rfl)) ?_;iterate 7 refine rC ?_
    refine nR ?_;refine rC ?_;refine rQ (call_r ha rfl rfl (arg_e arg_nil) (.inl rfl) (fun _ => rfl)) ?_;iterate 5 refine rC ?_
    refine nR ?_;iterate 2 refine rC ?_
    refine rX ?_;refine nQ ?_;refine sR ?_;refine rC ?_;refine nS ?_;refine wc_block ?_;refine sR ?_;refine rQ (eql_s (a := kind) (b := sInvoke) tab_ok rfl rfl rfl) ?_
    refine rC ?_;refine nS ?_;refine wF ?_;refine sR ?_;refine rQ (eql_s (a := kind) (b := sReturn) tab_ok rfl rfl rfl) ?_;refine rC ?_;refine nS ?_;refine wF ?_;refine sR ?_
    refine rQ iM ?_;refine rW ?_;refine rC ?_;refine nS ?_;refine wc_ret ?_;refine blk_r ?_;refine seq_r ?_
    exact ⟨trivial, _, rfl, [], .of rfl rfl rfl rfl rfl ⟨⟨_, rfl, ev_le 0 n 0 false⟩, rfl, trivial⟩ trivial⟩
theorem event_inv_no (s kind r1 cl rest : List UInt8) (b1 b2 ok : Bool) (n : Int) (H : HeadIs s kind r1 cl rest b1 b2 ok n) (hs : s ≠ sCrash) (h1 : kind = sInvoke) (hrl : rest.length ≤ 1048568) (l : List (List POp)) (k : Nat) (e : Int)
    (hp : FnIs Tryz.prog 47 [.d (strD (sClient ++ [10] ++ rest ++ [10]))] [] (parR l k e) []) (hno : ¬ (ok = true ∧ e = 0 ∧ l.length = 1 ∧ ∀ p, l[0]? = some p → p.length = 1)) : FnIs Tryz.prog 73 [.d (strD s)] [] (evR2 ⟨1, n, zOp, zBk, 0⟩ false) [] := by
  have d0 : decide (s = sCrash) = false := decide_eq_false hs
  have d1 : decide (kind = sInvoke) = true := decide_eq_true h1
  obtain ⟨hc1, hc2, ha⟩ := H
  refine fnIs_of tab_ok Tryz.func73 rfl rfl rfl ?_
  cases ok with
  | false =>
    refine sR ?_;refine rN ?_;refine rC ?_;refine nQ ?_;refine sR ?_;refine rC ?_;refine rQ (eql_s (a := s) (b := sCrash) tab_ok rfl rfl rfl) ?_;refine nS ?_;refine wF ?_
    refine kS ?_;refine sR ?_;refine rC ?_;refine rQ (call_r hc1 rfl rfl (arg_e (arg_e arg_nil)) (.inl rfl) (fun _ => rfl)) ?_;iterate 7 refine rC ?_
    refine nR ?_;refine rC ?_;refine rQ (call_r hc2 rfl rfl (arg_e (arg_e arg_nil)) (.inl rfl) (fun _ => rfl)) ?_;iterate 7 refine rC ?_
    refine nR ?_;refine rC ?_;refine rQ (call_r ha rfl rfl (arg_e arg_nil) (.inl rfl) (fun _ => rfl)) ?_;iterate 5 refine rC ?_
    refine nR ?_;iterate 2 refine rC ?_
    refine rX ?_;refine nQ ?_;refine sR ?_;refine rC ?_;refine nS ?_;refine wc_block ?_;refine sR ?_;refine rQ (eql_s (a := kind) (b := sInvoke) tab_ok rfl rfl rfl) ?_
    refine rC ?_;refine nS ?_;refine wT ?_;refine sR ?_;refine rC ?_;refine rX ?_;refine nR ?_;refine rC ?_
    refine rQ (add_str (a := sClient ++ [10]) (b := rest) rfl rfl (by simp [sClient]; omega) rfl) ?_
    refine rQ (add_str (a := sClient ++ [10] ++ rest) (b := [10]) rfl rfl (by simp [sClient]; omega) rfl) ?_
    refine rQ (call_r hp rfl rfl (arg_e arg_nil) (.inl rfl) (fun _ => rfl)) ?_;iterate 7 refine rC ?_
    refine nQ ?_;refine sR ?_;refine rC ?_;refine rQ (neq_er Tryz.underlying122 rfl) ?_;refine rC ?_;iterate 2 refine rT ?_
    refine rQ iU ?_;refine rC ?_;iterate 3 refine rT ?_
    refine rQ iU ?_;refine rC ?_;iterate 5 refine rT ?_
    refine rQ iU ?_;refine nS ?_;refine wV ?_;refine sR ?_;refine rQ iM ?_;refine rW ?_;refine rC ?_;refine nS ?_;refine wc_ret ?_;refine seq_r ?_;refine blk_r ?_;refine seq_r ?_
    exact ⟨trivial, _, rfl, [], .of rfl rfl rfl rfl rfl ⟨⟨_, rfl, ev_le 1 n 0 false⟩, rfl, trivial⟩ trivial⟩
  | true =>
    by_cases he : e = 0
    · have f1 : (!decide (e = 0)) = false := by rw [decide_eq_true he]; rfl
      by_cases hl : l.length = 1
      · have f2 : (!decide ((l.length : Int) = 1)) = false := by rw [decide_eq_true (by omega)]; rfl
        obtain ⟨p, hpl⟩ : ∃ p, l[0]? = some p := ⟨_, List.getElem?_eq_getElem (by omega)⟩
        have hpl' : l[((0 : Int)).toNat]? = some p := hpl
        have f3 : (!decide ((p.length : Int) = 1)) = true := by
          rw [decide_eq_false]
          · rfl
          · intro e1
            exact hno ⟨rfl, he, hl, fun q hq => by rw [hpl] at hq; cases hq; omega⟩
        refine sR ?_;refine rN ?_;refine rC ?_;refine nQ ?_;refine sR ?_;refine rC ?_;refine rQ (eql_s (a := s) (b := sCrash) tab_ok rfl rfl rfl) ?_;refine nS ?_;refine wF ?_
        refine kS ?_;refine sR ?_;refine rC ?_;refine rQ (call_r hc1 rfl rfl (arg_e (arg_e arg_nil)) (.inl rfl) (fun _ => rfl)) ?_;iterate 7 refine rC ?_
        refine nR ?_;refine rC ?_;refine rQ (call_r hc2 rfl rfl (arg_e (arg_e arg_nil)) (.inl rfl) (fun _ => rfl)) ?_;iterate 7 refine rC ?_
        refine nR ?_;refine rC ?_;refine rQ (call_r ha rfl rfl (arg_e arg_nil) (.inl rfl) (fun _ => rfl)) ?_;iterate 5 refine rC ?_
        refine nR ?_;iterate 2 refine rC ?_
        refine rX ?_;refine nQ ?_;refine sR ?_;refine rC ?_;refine nS ?_;refine wc_block ?_;refine sR ?_;refine rQ (eql_s (a := kind) (b := sInvoke) tab_ok rfl rfl rfl) ?_
        refine rC ?_;refine nS ?_;refine wT ?_;refine sR ?_;refine rC ?_;refine rX ?_;refine nR ?_;refine rC ?_
        refine rQ (add_str (a := sClient ++ [10]) (b := rest) rfl rfl (by simp [sClient]; omega) rfl) ?_
        refine rQ (add_str (a := sClient ++ [10] ++ rest) (b := [10]) rfl rfl (by simp [sClient]; omega) rfl) ?_
        refine rQ (call_r hp rfl rfl (arg_e arg_nil) (.inl rfl) (fun _ => rfl)) ?_;iterate 7 refine rC ?_
        refine nQ ?_;refine sR ?_;refine rC ?_;refine rQ (neq_nilI Tryz.underlying122 rfl) ?_;refine rC ?_;refine rP ?_;refine rC ?_;refine rP ?_;refine rC ?_;refine rQ iG ?_
        refine rC ?_;refine rO ?_;refine rC ?_;refine rO ?_;refine rQ (len_arx tab_ok rfl rfl) ?_;refine rO ?_;refine rC ?_;refine rQ iF ?_;refine rC ?_;refine rO ?_;refine rC ?_
        refine rO ?_;refine rQ (index_arx tab_ok rfl rfl rfl rfl rfl (by omega) (by assumption)) ?_;refine rO ?_;refine rQ iL ?_;refine rO ?_;refine rQ (len_arx tab_ok rfl rfl) ?_
        refine rO ?_;refine rC ?_;refine rQ iF ?_;refine nS ?_;refine wT ?_;refine sR ?_;refine rQ iM ?_;refine rW ?_;refine rC ?_;refine nS ?_;refine wc_ret ?_;refine seq_r ?_
        refine blk_r ?_;refine seq_r ?_
        exact ⟨trivial, _, rfl, [], .of rfl rfl rfl rfl rfl ⟨⟨_, rfl, ev_le 1 n 0 false⟩, rfl, trivial⟩ trivial⟩
      · have f2 : (!decide ((l.length : Int) = 1)) = true := by rw [decide_eq_false (by omega)]; rfl
        refine sR ?_;refine rN ?_;refine rC ?_;refine nQ ?_;refine sR ?_;refine rC ?_;refine rQ (eql_s (a := s) (b := sCrash) tab_ok rfl rfl rfl) ?_;refine nS ?_;refine wF ?_
        refine kS ?_;refine sR ?_;refine rC ?_;refine rQ (call_r hc1 rfl rfl (arg_e (arg_e arg_nil)) (.inl rfl) (fun _ => rfl)) ?_;iterate 7 refine rC ?_
        refine nR ?_;refine rC ?_;refine rQ (call_r hc2 rfl rfl (arg_e (arg_e arg_nil)) (.inl rfl) (fun _ => rfl)) ?_;iterate 7 refine rC ?_
        refine nR ?_;refine rC ?_;refine rQ (call_r ha rfl rfl (arg_e arg_nil) (.inl rfl) (fun _ => rfl)) ?_;iterate 5 refine rC ?_
        refine nR ?_;iterate 2 refine rC ?_
        refine rX ?_;refine nQ ?_;refine sR ?_;refine rC ?_;refine nS ?_;refine wc_block ?_;refine sR ?_;refine rQ (eql_s (a := kind) (b := sInvoke) tab_ok rfl rfl rfl) ?_
        refine rC ?_;refine nS ?_;refine wT ?_;refine sR ?_;refine rC ?_;refine rX ?_;refine nR ?_;refine rC ?_
        refine rQ (add_str (a := sClient ++ [10]) (b := rest) rfl rfl (by simp [sClient]; omega) rfl) ?_
        refine rQ (add_str (a := sClient ++ [10] ++ rest) (b := [10]) rfl rfl (by simp [sClient]; omega) rfl) ?_
        refine rQ (call_r hp rfl rfl (arg_e arg_nil) (.inl rfl) (fun _ => rfl)) ?_;iterate 7 refine rC ?_
        refine nQ ?_;refine sR ?_;refine rC ?_;refine rQ (neq_nilI Tryz.underlying122 rfl) ?_;refine rC ?_;refine rP ?_;refine rC ?_;refine rP ?_;refine rC ?_;refine rQ iG ?_
        refine rC ?_;refine rO ?_;refine rC ?_;refine rO ?_;refine rQ (len_arx tab_ok rfl rfl) ?_;refine rO ?_;refine rC ?_;refine rQ iF ?_;refine rC ?_;iterate 5 refine rS ?_
        refine rQ iT ?_;refine nS ?_;refine wV ?_;refine sR ?_;refine rQ iM ?_;refine rW ?_;refine rC ?_;refine nS ?_;refine wc_ret ?_;refine seq_r ?_;refine blk_r ?_;refine seq_r ?_
        exact ⟨trivial, _, rfl, [], .of rfl rfl rfl rfl rfl ⟨⟨_, rfl, ev_le 1 n 0 false⟩, rfl, trivial⟩ trivial⟩
    · have f1 : (!decide (e = 0)) = true := by rw [decide_eq_false he]; rfl
      refine sR ?_;refine rN ?_;refine rC ?_;refine nQ ?_;refine sR ?_;refine rC ?_;refine rQ (eql_s (a := s) (b := sCrash) tab_ok rfl rfl rfl) ?_;refine nS ?_;refine wF ?_
      refine kS ?_;refine sR ?_;refine rC ?_;refine rQ (call_r hc1 rfl rfl (arg_e (arg_e arg_nil)) (.inl rfl) (fun _ => rfl)) ?_;iterate 7 refine rC ?_
      refine nR ?_;refine rC ?_;refine rQ (call_r hc2 rfl rfl (arg_e (arg_e arg_nil)) (.inl rfl) (fun _ => rfl)) ?_;iterate 7 refine rC ?_
      refine nR ?_;refine rC ?_;refine rQ (call_r ha rfl rfl (arg_e arg_nil) (.inl rfl) (fun _ => rfl)) ?_;iterate 5 refine rC ?_
      refine nR ?_;iterate 2 refine rC ?_
      refine rX ?_;refine nQ ?_;refine sR ?_;refine rC ?_;refine nS ?_;refine wc_block ?_;refine sR ?_;refine rQ (eql_s (a := kind) (b := sInvoke) tab_ok rfl rfl rfl) ?_
      refine rC ?_;refine nS ?_;refine wT ?_;refine sR ?_;refine rC ?_;refine rX ?_;refine nR ?_;refine rC ?_
      refine rQ (add_str (a := sClient ++ [10]) (b := rest) rfl rfl (by simp [sClient]; omega) rfl) ?_
      refine rQ (add_str (a := sClient ++ [10] ++ rest) (b := [10]) rfl rfl (by simp [sClient]; omega) rfl) ?_
      refine rQ (call_r hp rfl rfl (arg_e arg_nil) (.inl rfl) (fun _ => rfl)) ?_;iterate 7 refine rC ?_
      refine nQ ?_;refine sR ?_;refine rC ?_;refine rQ (neq_nilI Tryz.underlying122 rfl) ?_;refine rC ?_;refine rP ?_;refine rC ?_;refine rP ?_;refine rC ?_;refine rQ iG ?_
      refine rC ?_;iterate 3 refine rS ?_
      refine rQ iT ?_;refine rC ?_;iterate 5 refine rT ?_
      refine rQ iU ?_;refine nS ?_;refine wV ?_;refine sR ?_;refine rQ iM ?_;refine rW ?_;refine rC ?_;refine nS ?_;refine wc_ret ?_;refine seq_r ?_;refine blk_r ?_;refine seq_r ?_
      exact ⟨trivial, _, rfl, [], .of rfl rfl rfl rfl rfl ⟨⟨_, rfl, ev_le 1 n 0 false⟩, rfl, trivial⟩ trivial⟩
theorem event_inv (s kind r1 cl rest : List UInt8) (b1 b2 : Bool) (n : Int) (H : HeadIs s kind r1 cl rest b1 b2 true n) (hs : s ≠ sCrash) (h1 : kind = sInvoke) (hrl : rest.length ≤ 1048568) (o : POp) (k : Nat)
    (hp : FnIs Tryz.prog 47 [.d (strD (sClient ++ [10] ++ rest ++ [10]))] [] (parR [[o]] k 0) []) (hok : HEv.Ok ⟨1, n, o, zBk, 0⟩) (hdo : o.data.length ≤ 64) (c : Bool) (hcq : decide (lineE ⟨1, n, o, zBk, 0⟩ = s) = c) : FnIs Tryz.prog 73 [.d (strD s)] [] (evR2 ⟨1, n, o, zBk, 0⟩ c) [] := by
  subst hcq
  have d0 : decide (s = sCrash) = false := decide_eq_false hs
  have d1 : decide (kind = sInvoke) = true := decide_eq_true h1
  have f2 : (!decide ((([[o]] : List (List POp)).length : Int) = 1)) = false := rfl
  have f3 : (!decide ((([o] : List POp).length : Int) = 1)) = false := rfl
  have hpl' : ([[o]] : List (List POp))[((0 : Int)).toNat]? = some [o] := rfl
  have hpo' : ([o] : List POp)[((0 : Int)).toNat]? = some o := rfl
  obtain ⟨hc1, hc2, ha⟩ := H
  refine fnIs_of tab_ok Tryz.func73 rfl rfl rfl ?_;refine sR ?_;refine rN ?_;refine rC ?_;refine nQ ?_;refine sR ?_;refine rC ?_;refine rQ (eql_s (a := s) (b := sCrash) tab_ok rfl rfl rfl) ?_
  refine nS ?_;refine wF ?_;refine kS ?_;refine sR ?_;refine rC ?_;refine rQ (call_r hc1 rfl rfl (arg_e (arg_e arg_nil)) (.inl rfl) (fun _ => rfl)) ?_;iterate 7 refine rC ?_
  refine nR ?_;refine rC ?_;refine rQ (call_r hc2 rfl rfl (arg_e (arg_e arg_nil)) (.inl rfl) (fun _ => rfl)) ?_;iterate 7 refine rC ?_
  refine nR ?_;refine rC ?_;refine rQ (call_r ha rfl rfl (arg_e arg_nil) (.inl rfl) (fun _ => rfl)) ?_;iterate 5 refine rC ?_
  refine nR ?_;iterate 2 refine rC ?_
  refine rX ?_;refine nQ ?_;refine sR ?_;refine rC ?_;refine nS ?_;refine wc_block ?_;refine sR ?_;refine rQ (eql_s (a := kind) (b := sInvoke) tab_ok rfl rfl rfl) ?_
  refine rC ?_;refine nS ?_;refine wT ?_;refine sR ?_;refine rC ?_;refine rX ?_;refine nR ?_;refine rC ?_
  refine rQ (add_str (a := sClient ++ [10]) (b := rest) rfl rfl (by simp [sClient]; omega) rfl) ?_
  refine rQ (add_str (a := sClient ++ [10] ++ rest) (b := [10]) rfl rfl (by simp [sClient]; omega) rfl) ?_
  refine rQ (call_r hp rfl rfl (arg_e arg_nil) (.inl rfl) (fun _ => rfl)) ?_;iterate 7 refine rC ?_
  refine nQ ?_;refine sR ?_;refine rC ?_;refine rQ (neq_nilI Tryz.underlying122 rfl) ?_;refine rC ?_;refine rP ?_;refine rC ?_;refine rP ?_;refine rC ?_;refine rQ iG ?_
  refine rC ?_;refine rP ?_;refine rC ?_;refine rP ?_;refine rQ (len_arx tab_ok rfl rfl) ?_;refine rP ?_;refine rC ?_;refine rQ iG ?_;refine rC ?_;refine rP ?_;refine rC ?_
  refine rP ?_;refine rQ (index_arx tab_ok rfl rfl rfl rfl rfl (by omega) (by assumption)) ?_;refine rP ?_;refine rQ iL ?_;refine rP ?_;refine rQ (len_arx tab_ok rfl rfl) ?_
  refine rP ?_;refine rC ?_;refine rQ iG ?_;refine nS ?_;refine wG ?_;refine kS ?_;refine wc_region ?_;refine rC ?_;refine rQ (index_arx tab_ok rfl rfl rfl rfl rfl (by omega) (by assumption)) ?_
  refine rQ iL ?_;refine rQ (index_arx tab_ok rfl rfl rfl rfl rfl (by omega) (by assumption)) ?_;refine rQ iL ?_;refine rC ?_;refine rX ?_;refine reg_nil ?_;refine blk_n ?_
  refine seq_n ?_;refine wc_seq ?_;refine wc_draw (by kernel_rfl) ?_;refine dQ [2] [64] iM ?_;refine dC [10] [] ?_;refine dQ [114] [] (eql_nilI Tryz.underlying122 rfl) ?_
  refine dC [115] [] ?_;refine dreg_onq [116, 2] [64] rfl rfl rfl rfl (load_box tab_ok rfl rfl rfl rfl) ?_;refine dreg_onq [116, 117] [] rfl rfl rfl rfl (call_r (hline_is ⟨1, n, o, zBk, 0⟩ hok hdo) rfl rfl (arg_e arg_nil) (.inl rfl) (fun _ => rfl)) ?_
  refine dreg_onq [116, 0] [] rfl rfl rfl rfl (step_C tab_ok (fun K hk => hk)) ?_;refine dreg_onq [116, 118, 119] [] rfl rfl rfl rfl (eql_s (a := lineE ⟨1, n, o, zBk, 0⟩) (b := s) tab_ok rfl rfl rfl) ?_
  refine dQ [116, 120] [] iU ?_;refine dreg_s [2, 113] [64] (store_row tab_ok rfl rfl rfl ⟨_, ⟨rfl, rfl, rfl⟩, rfl⟩ rfl) ?_;refine dC [121] [] ?_;refine dreg_end (by kernel_rfl) ?_
  refine seq_n ?_;refine wc_ret ?_
  exact ⟨trivial, _, rfl, [], lf⟩
end Go.Proofs.YtmojbghcngdkpaaGreatDoor

namespace Go.Proofs.YtmojbghcngdkpaaGreatDoor
open Go.Eng Go.Plain
set_option maxHeartbeats 8000000
set_option maxRecDepth 20000
set_option linter.unusedVariables false
attribute [local irreducible] WC RegS RegD SeqQ BlkQ ScoQ RegK CutK Sat SatN FnIs LoopQ StepIs OpIs
theorem words_at {i : Nat} {k : Int} {v : AV} (h : wordsL[i]? = some (k, v)) : ∃ w, v = .d (strD w) ∧ i < 4 ∧ keyOf w = some k ∧ w = wordE k := by
  unfold wordsL at h
  match i, h with
  | 0, h => cases h; exact ⟨_, rfl, by decide, by decide, rfl⟩
  | 1, h => cases h; exact ⟨_, rfl, by decide, by decide, rfl⟩
  | 2, h => cases h; exact ⟨_, rfl, by decide, by decide, rfl⟩
  | 3, h => cases h; exact ⟨_, rfl, by decide, by decide, rfl⟩
  | i + 4, h => simp at h
theorem words_get {w : List UInt8} {k : Int} (h : keyOf w = some k) : ∃ i, i < 4 ∧ wordsL[i]? = some (k, .d (strD w)) := by
  obtain ⟨h1, h2⟩ := keyOf_some h
  rw [h2]
  rcases kn4_out h1 with rfl | rfl | rfl | rfl
  · exact ⟨0, by decide, rfl⟩
  · exact ⟨1, by decide, rfl⟩
  · exact ⟨2, by decide, rfl⟩
  · exact ⟨3, by decide, rfl⟩
theorem zop_ok : zOp.Ok := ⟨by decide, by decide⟩
theorem zev_le2 (k c e : Int) (v : List UInt8) : DLe (.cons (u8s k) (.cons (i6 c) (.cons zPOp (.cons (encBk v) (.cons (i6 e) .nil))))) (encEv ⟨k, c, zOp, v, e⟩) := by
  rintro w X cs ⟨c1, r1, rfl, h1, c2, r2, rfl, h2, c3, r3, rfl, h3, h4⟩
  exact ⟨c1, _, rfl, h1, c2, _, rfl, h2, c3, _, rfl, zop_le _ _ _ h3, h4⟩
theorem zev_args (k c e : Int) (v : List UInt8) : ArgsLe [.d (.cons (u8s k) (.cons (i6 c) (.cons zPOp (.cons (encBk v) (.cons (i6 e) .nil)))))] [.d (encEv ⟨k, c, zOp, v, e⟩)] := ⟨⟨AVLe.d (zev_le2 k c e v) rfl, fun _ _ => trivial⟩, trivial⟩
def leftN (seen : List Nat) : Nat := (if 0 ∈ seen then 0 else 1) + (if 1 ∈ seen then 0 else 1) + (if 2 ∈ seen then 0 else 1) + (if 3 ∈ seen then 0 else 1)
theorem left_lt {seen : List Nat} {i : Nat} (hi : i < 4) (hs : i ∉ seen) : leftN (seen ++ [i]) < leftN seen := by
  unfold leftN
  simp only [List.mem_append, List.mem_singleton]
  match i, hi, hs with
  | 0, _, hs => simp only [hs, if_false, or_true, if_true]; simp
  | 1, _, hs => simp only [hs, if_false, or_true, if_true]; simp
  | 2, _, hs => simp only [hs, if_false, or_true, if_true]; simp
  | 3, _, hs => simp only [hs, if_false, or_true, if_true]; simp
structure FndIs (word : List UInt8) (seen : List Nat) (f : Option Int) : Prop where
  no : f = none → ∀ i ∈ seen, ∀ k, wordsL[i]? ≠ some (k, .d (strD word))
  yes : ∀ k, f = some k → keyOf word = some k
theorem FndIs.all {word : List UInt8} {seen : List Nat} {f : Option Int} (h : FndIs word seen f) (ha : ∀ i, i < 4 → i ∈ seen) : f = keyOf word := by
  cases f with
  | some k => exact (h.yes k rfl).symm
  | none =>
    cases hk : keyOf word with
    | none => rfl
    | some k =>
      obtain ⟨i, hi, hg⟩ := words_get hk
      exact absurd hg (h.no rfl i (ha i hi) k)
theorem strD_inj {a b : List UInt8} (h : strD a = strD b) : a = b := by
  simp only [strD, mkS, D.sc.injEq, Value.string.injEq, ByteArray.mk.injEq] at h
  simpa using h
theorem FndIs.hit {word : List UInt8} {seen : List Nat} {f : Option Int} {i : Nat} {k : Int} (h : wordsL[i]? = some (k, .d (strD word))) (hk : keyOf word = some k) : FndIs word (seen ++ [i]) (some k) :=
  ⟨fun e => (by cases e), fun k' e => by cases e; exact hk⟩
theorem FndIs.miss {word w : List UInt8} {seen : List Nat} {f : Option Int} {i : Nat} {k : Int} (H : FndIs word seen f) (h : wordsL[i]? = some (k, .d (strD w))) (hne : w ≠ word) : FndIs word (seen ++ [i]) f := by
  refine ⟨fun e j hj k' hg => ?_, H.yes⟩
  rcases List.mem_append.1 hj with hj | hj
  · exact H.no e j hj k' hg
  · have : j = i := by simpa using hj
    subst this
    rw [h] at hg
    simp only [Option.some.injEq, Prod.mk.injEq, AV.d.injEq] at hg
    exact hne (strD_inj hg.2)
def retV (more : Bool) (vb : List UInt8) : List UInt8 := if more = true then vb else zBk
def evRet (s : List UInt8) (n : Int) (ok more bb : Bool) (vb : List UInt8) : Option Int → HEv × Bool
  | none => (⟨2, n, zOp, zBk, 0⟩, false)
  | some k => (⟨2, n, zOp, retV more vb, k⟩, (if more = true then bb else true) && (ok && decide (lineE ⟨2, n, zOp, retV more vb, k⟩ = s)))
def kInt (f : Option Int) : Int := f.getD 0
abbrev evBox (n : Int) (f : Option Int) : Row := .box 59 (.d (.cons (u8s 2) (.cons (i6 n) (.cons zPOp (.cons (.vec 32 1 encU8 (List.replicate 32 0)) (.cons (i6 (kInt f)) .nil))))))
theorem event_ret_false (s kind r1 cl rest word value : List UInt8) (b1 b2 more bb : Bool) (n : Int) (vb : List UInt8) (H : HeadIs s kind r1 cl rest b1 b2 false n) (hs : s ≠ sCrash) (h1 : kind = sReturn)
    (hc3 : FnIs Tryz.prog 72 [.d (strD rest), .d (strD [32])] [] (.tup (.acons (.d (strD word)) (.acons (.d (strD value)) (.acons (.bool more) .anil)))) []) (hb : FnIs Tryz.prog 119 [.d (strD value)] [] (blkR vb bb) []) (hbl : bb = true → vb.length = 32) :
    FnIs Tryz.prog 73 [.d (strD s)] [] (evR2 (evRet s n false more bb vb (keyOf word)).1 (evRet s n false more bb vb (keyOf word)).2) [] := by
  have d0 : decide (s = sCrash) = false := decide_eq_false hs
  have d1 : decide (kind = sInvoke) = false := decide_eq_false (by rw [h1]; decide)
  have d2 : decide (kind = sReturn) = true := decide_eq_true h1
  obtain ⟨hc1, hc2, ha⟩ := H
  refine fnIs_of tab_ok Tryz.func73 rfl rfl rfl ?_;refine sR ?_;refine rN ?_;refine rC ?_;refine nQ ?_;refine sR ?_;refine rC ?_;refine rQ (eql_s (a := s) (b := sCrash) tab_ok rfl rfl rfl) ?_
  refine nS ?_;refine wF ?_;refine kS ?_;refine sR ?_;refine rC ?_;refine rQ (call_r hc1 rfl rfl (arg_e (arg_e arg_nil)) (.inl rfl) (fun _ => rfl)) ?_;iterate 7 refine rC ?_
  refine nR ?_;refine rC ?_;refine rQ (call_r hc2 rfl rfl (arg_e (arg_e arg_nil)) (.inl rfl) (fun _ => rfl)) ?_;iterate 7 refine rC ?_
  refine nR ?_;refine rC ?_;refine rQ (call_r ha rfl rfl (arg_e arg_nil) (.inl rfl) (fun _ => rfl)) ?_;iterate 5 refine rC ?_
  refine nR ?_;iterate 2 refine rC ?_
  refine rX ?_;refine nQ ?_;refine sR ?_;refine rC ?_;refine nS ?_;refine wc_block ?_;refine sR ?_;refine rQ (eql_s (a := kind) (b := sInvoke) tab_ok rfl rfl rfl) ?_
  refine rC ?_;refine nS ?_;refine wF ?_;refine sR ?_;refine rQ (eql_s (a := kind) (b := sReturn) tab_ok rfl rfl rfl) ?_;refine rC ?_;refine nS ?_;refine wT ?_;refine sR ?_
  refine rC ?_;refine rX ?_;refine nR ?_;refine rC ?_;refine rQ (call_r hc3 rfl rfl (arg_e (arg_e arg_nil)) (.inl rfl) (fun _ => rfl)) ?_;iterate 7 refine rC ?_
  refine nQ ?_;refine sR ?_;refine reg_new (call_h [] words_is rfl rfl rfl arg_nil trivial rfl rfl (.inl rfl) rfl rfl) rfl ?_;refine reg_new (range_map (κ := Int) (enc := i6) (l := wordsL) Tryz.underlying173 rfl rfl) rfl ?_
  refine nS ?_;refine wc_block ?_
  refine wc_inv (fun q : List Nat × Option Int => ⟨[(89, .ptr 67 []), (14, .d (strD word)), (15, .d (strD value)), (16, .bool more), (10, erA false), (0, .d (strD s)), (2, .ptr 65 []), (3, .bool q.2.isSome)], [(65, some (evBox n q.2)), (66, some (.mo (mapC i6 wordsL))), (67, some (.mi (.mapr 66) 4 4 q.1))], 72, Tryz.f73.ntmps, 64⟩) (fun q => FndIs word q.1 q.2) (fun q => leftN q.1) ([], none) [(65, some 64), (66, some 448), (67, some 456)] ⟨fun _ i hi => (by cases hi), fun k e => (by cases e)⟩
    (.of rfl rfl rfl rfl rfl ⟨⟨_, rfl, .refl _⟩, rfl, ⟨_, rfl, .refl _⟩, rfl, ⟨_, rfl, .refl _⟩, rfl, ⟨_, rfl, .refl _⟩, rfl, ⟨_, rfl, .refl _⟩, rfl, ⟨_, rfl, .refl _⟩, rfl, ⟨_, rfl, .refl _⟩, rfl, ⟨_, rfl, .refl _⟩, rfl, trivial⟩ ⟨⟨rfl, rfl, _, rfl, .refl _⟩, ⟨rfl, rfl, _, rfl, .refl _⟩, ⟨rfl, rfl, _, rfl, .refl _⟩, trivial⟩) ?_
  rintro ⟨seen, f⟩ hf
  simp only at hf
  refine wc_of ?_;refine sR ?_
  refine reg_next_map (κ := Int) (enc := i6) (l := wordsL) rfl rfl rfl rfl rfl (fun hall => ?_) (fun i k v hl hs' => ?_)
  · have hfe := hf.all hall
    subst hfe
    cases hk : keyOf word with
    | none =>
      cases more with
      | false =>
        refine rC ?_;refine nQ ?_;refine wG ?_;refine wc_exit ?_;refine seq_x ?_;refine loop_x ?_;refine blk_x ?_;refine seq_n ?_;refine qR ?_;iterate 2 refine rC ?_
        refine rT ?_;refine rQ iG ?_;refine nS ?_;refine wG ?_;refine kS ?_;refine sR ?_;iterate 2 refine rC ?_
        refine nS ?_;refine wV ?_;refine sR ?_;refine rQ iM ?_;refine rW ?_;refine rC ?_;refine nS ?_;refine wc_ret ?_;refine blk_r ?_;refine seq_r ?_
        exact ⟨trivial, _, rfl, [], .of rfl rfl rfl rfl rfl ⟨⟨_, rfl, ev_le 2 n 0 false⟩, rfl, trivial⟩ trivial⟩
      | true =>
        refine rC ?_;refine nQ ?_;refine wG ?_;refine wc_exit ?_;refine seq_x ?_;refine loop_x ?_;refine blk_x ?_;refine seq_n ?_;refine qR ?_;iterate 2 refine rC ?_
        refine rP ?_;refine rC ?_;refine rQ iU ?_;refine nS ?_;refine wG ?_;refine kS ?_;refine sR ?_;iterate 2 refine rC ?_
        refine nS ?_;refine wV ?_;refine sR ?_;refine rQ iM ?_;refine rW ?_;refine rC ?_;refine nS ?_;refine wc_ret ?_;refine blk_r ?_;refine seq_r ?_
        exact ⟨trivial, _, rfl, [], .of rfl rfl rfl rfl rfl ⟨⟨_, rfl, ev_le 2 n 0 false⟩, rfl, trivial⟩ trivial⟩
    | some k =>
      have hkn := (keyOf_some hk).1
      have hkr := kn4_out hkn
      cases more with
      | false =>
        obtain ⟨v, hv⟩ : ∃ v, v = zBk := ⟨_, rfl⟩
        subst hv
        refine rC ?_;refine nQ ?_;refine wG ?_;refine wc_exit ?_;refine seq_x ?_;refine loop_x ?_;refine blk_x ?_;refine seq_n ?_;refine qR ?_;iterate 2 refine rC ?_
        refine rT ?_;refine rQ iG ?_;refine nS ?_;refine wG ?_;refine kS ?_;refine sR ?_;iterate 2 refine rC ?_
        refine nS ?_;refine wG ?_;refine wc_skip ?_;refine blk_n ?_;refine seq_n ?_;refine wc_seq ?_;refine wc_draw (by kernel_rfl) ?_;refine dQ [2] [65] iM ?_;refine dC [10] [] ?_
        refine dQ [114] [] (eql_er Tryz.underlying122 rfl) ?_;refine dC [115] [] ?_;refine dreg_offq [116, 2] rfl rfl rfl rfl ?_;refine dreg_offq [116, 117] rfl rfl rfl rfl ?_
        refine dreg_offq [116, 0] rfl rfl rfl rfl ?_;refine dreg_offq [116, 118, 119] rfl rfl rfl rfl ?_;refine dQ [116, 120] [] iG ?_;refine dreg_s [2, 113] [65] (store_row tab_ok rfl rfl rfl ⟨_, ⟨rfl, rfl, rfl⟩, rfl⟩ rfl) ?_
        refine dC [121] [] ?_;refine dreg_end (by kernel_rfl) ?_;refine seq_n ?_;refine wc_ret ?_
        exact ⟨trivial, _, rfl, [], .of rfl rfl rfl rfl rfl ⟨⟨_, rfl, ev_le 2 n k _⟩, rfl, trivial⟩ trivial⟩
      | true =>
        cases bb with
        | false =>
          refine rC ?_;refine nQ ?_;refine wG ?_;refine wc_exit ?_;refine seq_x ?_;refine loop_x ?_;refine blk_x ?_;refine seq_n ?_;refine qR ?_;iterate 2 refine rC ?_
          refine rP ?_;refine rC ?_;refine rQ iU ?_;refine nS ?_;refine wV ?_;refine wc_region ?_;refine rC ?_;refine rQ (call_r hb rfl rfl (arg_e arg_nil) (.inl rfl) (fun _ => rfl)) ?_
          iterate 4 refine rC ?_
          refine rX ?_;refine rC ?_;refine nR ?_;iterate 2 refine rC ?_
          refine nS ?_;refine wV ?_;refine sR ?_;refine rQ iM ?_;refine rW ?_;refine rC ?_;refine nS ?_;refine wc_ret ?_;refine blk_r ?_;refine seq_r ?_
          exact ⟨trivial, _, rfl, [], .of rfl rfl rfl rfl rfl ⟨⟨_, rfl, ev_le2 2 n k vb _⟩, rfl, trivial⟩ trivial⟩
        | true =>
          obtain ⟨v, hv⟩ : ∃ v, v = vb := ⟨_, rfl⟩
          subst hv
          refine rC ?_;refine nQ ?_;refine wG ?_;refine wc_exit ?_;refine seq_x ?_;refine loop_x ?_;refine blk_x ?_;refine seq_n ?_;refine qR ?_;iterate 2 refine rC ?_
          refine rP ?_;refine rC ?_;refine rQ iU ?_;refine nS ?_;refine wV ?_;refine wc_region ?_;refine rC ?_;refine rQ (call_r hb rfl rfl (arg_e arg_nil) (.inl rfl) (fun _ => rfl)) ?_
          iterate 4 refine rC ?_
          refine rX ?_;refine rC ?_;refine nR ?_;iterate 2 refine rC ?_
          refine nS ?_;refine wG ?_;refine wc_skip ?_;refine blk_n ?_;refine seq_n ?_;refine wc_seq ?_;refine wc_draw (by kernel_rfl) ?_;refine dQ [2] [65] iM ?_;refine dC [10] [] ?_
          refine dQ [114] [] (eql_er Tryz.underlying122 rfl) ?_;refine dC [115] [] ?_;refine dreg_offq [116, 2] rfl rfl rfl rfl ?_;refine dreg_offq [116, 117] rfl rfl rfl rfl ?_
          refine dreg_offq [116, 0] rfl rfl rfl rfl ?_;refine dreg_offq [116, 118, 119] rfl rfl rfl rfl ?_;refine dQ [116, 120] [] iG ?_;refine dreg_s [2, 113] [65] (store_row tab_ok rfl rfl rfl ⟨_, ⟨rfl, rfl, rfl⟩, rfl⟩ rfl) ?_
          refine dC [121] [] ?_;refine dreg_end (by kernel_rfl) ?_;refine seq_n ?_;refine wc_ret ?_
          exact ⟨trivial, _, rfl, [], .of rfl rfl rfl rfl rfl ⟨⟨_, rfl, ev_le2 2 n k v _⟩, rfl, trivial⟩ trivial⟩
  · obtain ⟨w, rfl, hi4, hkw, _⟩ := words_at hl
    by_cases hw : w = word
    · have dw : decide (w = word) = true := decide_eq_true hw
      refine rC ?_;refine nQ ?_;refine wV ?_;refine kS ?_;refine wc_block ?_;refine sR ?_;refine rQ (entry_map (κ := Int) (enc := i6) (l := wordsL) (i := i) rfl rfl rfl rfl hl) ?_
      iterate 4 refine rC ?_
      refine nR ?_;iterate 2 refine rC ?_
      refine rQ (eql_s (a := w) (b := word) tab_ok rfl rfl rfl) ?_;refine nS ?_;refine wT ?_;refine wc_region ?_;iterate 2 refine rC ?_
      refine rX ?_;refine rC ?_;refine reg_nil ?_;refine blk_n ?_
      subst hw
      exact loop_n (seen ++ [i], some k) [] (FndIs.hit (f := f) hl hkw) (left_lt hi4 hs') (.of rfl rfl rfl rfl rfl ⟨⟨_, rfl, .refl _⟩, rfl, ⟨_, rfl, .refl _⟩, rfl, ⟨_, rfl, .refl _⟩, rfl, ⟨_, rfl, .refl _⟩, rfl, ⟨_, rfl, .refl _⟩, rfl, ⟨_, rfl, .refl _⟩, rfl, ⟨_, rfl, .refl _⟩, rfl, ⟨_, rfl, .refl _⟩, rfl, trivial⟩ ⟨⟨rfl, rfl, _, rfl, .refl _⟩, ⟨rfl, rfl, _, rfl, .refl _⟩, ⟨rfl, rfl, _, rfl, .refl _⟩, trivial⟩)
    · have dw : decide (w = word) = false := decide_eq_false hw
      refine rC ?_;refine nQ ?_;refine wV ?_;refine kS ?_;refine wc_block ?_;refine sR ?_;refine rQ (entry_map (κ := Int) (enc := i6) (l := wordsL) (i := i) rfl rfl rfl rfl hl) ?_
      iterate 4 refine rC ?_
      refine nR ?_;iterate 2 refine rC ?_
      refine rQ (eql_s (a := w) (b := word) tab_ok rfl rfl rfl) ?_;refine nS ?_;refine wF ?_;refine wc_skip ?_;refine blk_n ?_
      exact loop_n (seen ++ [i], f) [] (FndIs.miss hf hl hw) (left_lt hi4 hs') (.of rfl rfl rfl rfl rfl ⟨⟨_, rfl, .refl _⟩, rfl, ⟨_, rfl, .refl _⟩, rfl, ⟨_, rfl, .refl _⟩, rfl, ⟨_, rfl, .refl _⟩, rfl, ⟨_, rfl, .refl _⟩, rfl, ⟨_, rfl, .refl _⟩, rfl, ⟨_, rfl, .refl _⟩, rfl, ⟨_, rfl, .refl _⟩, rfl, trivial⟩ ⟨⟨rfl, rfl, _, rfl, .refl _⟩, ⟨rfl, rfl, _, rfl, .refl _⟩, ⟨rfl, rfl, _, rfl, .refl _⟩, trivial⟩)
theorem event_ret_true (s kind r1 cl rest word value : List UInt8) (b1 b2 more bb : Bool) (n : Int) (vb : List UInt8) (H : HeadIs s kind r1 cl rest b1 b2 true n) (hs : s ≠ sCrash) (h1 : kind = sReturn)
    (hc3 : FnIs Tryz.prog 72 [.d (strD rest), .d (strD [32])] [] (.tup (.acons (.d (strD word)) (.acons (.d (strD value)) (.acons (.bool more) .anil)))) []) (hb : FnIs Tryz.prog 119 [.d (strD value)] [] (blkR vb bb) []) (hbl : bb = true → vb.length = 32) (hn0 : -9223372036854775808 ≤ n) (hn1 : n ≤ 9223372036854775807) :
    FnIs Tryz.prog 73 [.d (strD s)] [] (evR2 (evRet s n true more bb vb (keyOf word)).1 (evRet s n true more bb vb (keyOf word)).2) [] := by
  have d0 : decide (s = sCrash) = false := decide_eq_false hs
  have d1 : decide (kind = sInvoke) = false := decide_eq_false (by rw [h1]; decide)
  have d2 : decide (kind = sReturn) = true := decide_eq_true h1
  obtain ⟨hc1, hc2, ha⟩ := H
  refine fnIs_of tab_ok Tryz.func73 rfl rfl rfl ?_;refine sR ?_;refine rN ?_;refine rC ?_;refine nQ ?_;refine sR ?_;refine rC ?_;refine rQ (eql_s (a := s) (b := sCrash) tab_ok rfl rfl rfl) ?_
  refine nS ?_;refine wF ?_;refine kS ?_;refine sR ?_;refine rC ?_;refine rQ (call_r hc1 rfl rfl (arg_e (arg_e arg_nil)) (.inl rfl) (fun _ => rfl)) ?_;iterate 7 refine rC ?_
  refine nR ?_;refine rC ?_;refine rQ (call_r hc2 rfl rfl (arg_e (arg_e arg_nil)) (.inl rfl) (fun _ => rfl)) ?_;iterate 7 refine rC ?_
  refine nR ?_;refine rC ?_;refine rQ (call_r ha rfl rfl (arg_e arg_nil) (.inl rfl) (fun _ => rfl)) ?_;iterate 5 refine rC ?_
  refine nR ?_;iterate 2 refine rC ?_
  refine rX ?_;refine nQ ?_;refine sR ?_;refine rC ?_;refine nS ?_;refine wc_block ?_;refine sR ?_;refine rQ (eql_s (a := kind) (b := sInvoke) tab_ok rfl rfl rfl) ?_
  refine rC ?_;refine nS ?_;refine wF ?_;refine sR ?_;refine rQ (eql_s (a := kind) (b := sReturn) tab_ok rfl rfl rfl) ?_;refine rC ?_;refine nS ?_;refine wT ?_;refine sR ?_
  refine rC ?_;refine rX ?_;refine nR ?_;refine rC ?_;refine rQ (call_r hc3 rfl rfl (arg_e (arg_e arg_nil)) (.inl rfl) (fun _ => rfl)) ?_;iterate 7 refine rC ?_
  refine nQ ?_;refine sR ?_;refine reg_new (call_h [] words_is rfl rfl rfl arg_nil trivial rfl rfl (.inl rfl) rfl rfl) rfl ?_;refine reg_new (range_map (κ := Int) (enc := i6) (l := wordsL) Tryz.underlying173 rfl rfl) rfl ?_
  refine nS ?_;refine wc_block ?_
  refine wc_inv (fun q : List Nat × Option Int => ⟨[(89, .ptr 67 []), (14, .d (strD word)), (15, .d (strD value)), (16, .bool more), (10, erA true), (0, .d (strD s)), (2, .ptr 65 []), (3, .bool q.2.isSome)], [(65, some (evBox n q.2)), (66, some (.mo (mapC i6 wordsL))), (67, some (.mi (.mapr 66) 4 4 q.1))], 72, Tryz.f73.ntmps, 64⟩) (fun q => FndIs word q.1 q.2) (fun q => leftN q.1) ([], none) [(65, some 64), (66, some 448), (67, some 456)] ⟨fun _ i hi => (by cases hi), fun k e => (by cases e)⟩
    (.of rfl rfl rfl rfl rfl ⟨⟨_, rfl, .refl _⟩, rfl, ⟨_, rfl, .refl _⟩, rfl, ⟨_, rfl, .refl _⟩, rfl, ⟨_, rfl, .refl _⟩, rfl, ⟨_, rfl, .refl _⟩, rfl, ⟨_, rfl, .refl _⟩, rfl, ⟨_, rfl, .refl _⟩, rfl, ⟨_, rfl, .refl _⟩, rfl, trivial⟩ ⟨⟨rfl, rfl, _, rfl, .refl _⟩, ⟨rfl, rfl, _, rfl, .refl _⟩, ⟨rfl, rfl, _, rfl, .refl _⟩, trivial⟩) ?_
  rintro ⟨seen, f⟩ hf
  simp only at hf
  refine wc_of ?_;refine sR ?_
  refine reg_next_map (κ := Int) (enc := i6) (l := wordsL) rfl rfl rfl rfl rfl (fun hall => ?_) (fun i k v hl hs' => ?_)
  · have hfe := hf.all hall
    subst hfe
    cases hk : keyOf word with
    | none =>
      cases more with
      | false =>
        refine rC ?_;refine nQ ?_;refine wG ?_;refine wc_exit ?_;refine seq_x ?_;refine loop_x ?_;refine blk_x ?_;refine seq_n ?_;refine qR ?_;iterate 2 refine rC ?_
        refine rT ?_;refine rQ iG ?_;refine nS ?_;refine wG ?_;refine kS ?_;refine sR ?_;iterate 2 refine rC ?_
        refine nS ?_;refine wV ?_;refine sR ?_;refine rQ iM ?_;refine rW ?_;refine rC ?_;refine nS ?_;refine wc_ret ?_;refine blk_r ?_;refine seq_r ?_
        exact ⟨trivial, _, rfl, [], .of rfl rfl rfl rfl rfl ⟨⟨_, rfl, ev_le 2 n 0 false⟩, rfl, trivial⟩ trivial⟩
      | true =>
        refine rC ?_;refine nQ ?_;refine wG ?_;refine wc_exit ?_;refine seq_x ?_;refine loop_x ?_;refine blk_x ?_;refine seq_n ?_;refine qR ?_;iterate 2 refine rC ?_
        refine rP ?_;refine rC ?_;refine rQ iU ?_;refine nS ?_;refine wG ?_;refine kS ?_;refine sR ?_;iterate 2 refine rC ?_
        refine nS ?_;refine wV ?_;refine sR ?_;refine rQ iM ?_;refine rW ?_;refine rC ?_;refine nS ?_;refine wc_ret ?_;refine blk_r ?_;refine seq_r ?_
        exact ⟨trivial, _, rfl, [], .of rfl rfl rfl rfl rfl ⟨⟨_, rfl, ev_le 2 n 0 false⟩, rfl, trivial⟩ trivial⟩
    | some k =>
      have hkn := (keyOf_some hk).1
      have hkr := kn4_out hkn
      cases more with
      | false =>
        obtain ⟨v, hv⟩ : ∃ v, v = zBk := ⟨_, rfl⟩
        have hok : HEv.Ok ⟨2, n, zOp, v, k⟩ := ⟨show (0 : Int) ≤ 2 ∧ (2 : Int) ≤ 255 by decide, ⟨hn0, hn1⟩, zop_ok, by rw [hv]; rfl, by rcases hkr with h | h | h | h <;> (simp only [h]; decide)⟩
        have hline := FnIs.args_le (zev_args 2 n k v) (hline_is ⟨2, n, zOp, v, k⟩ hok (show zOp.data.length ≤ 64 by decide))
        rw [show evRet s n true false bb vb (some k) = (⟨2, n, zOp, v, k⟩, decide (lineE ⟨2, n, zOp, v, k⟩ = s)) by rw [hv]; rfl]
        subst hv
        refine rC ?_;refine nQ ?_;refine wG ?_;refine wc_exit ?_;refine seq_x ?_;refine loop_x ?_;refine blk_x ?_;refine seq_n ?_;refine qR ?_;iterate 2 refine rC ?_
        refine rT ?_;refine rQ iG ?_;refine nS ?_;refine wG ?_;refine kS ?_;refine sR ?_;iterate 2 refine rC ?_
        refine nS ?_;refine wG ?_;refine wc_skip ?_;refine blk_n ?_;refine seq_n ?_;refine wc_seq ?_;refine wc_draw (by kernel_rfl) ?_;refine dQ [2] [65] iM ?_;refine dC [10] [] ?_
        refine dQ [114] [] (eql_nilI Tryz.underlying122 rfl) ?_;refine dC [115] [] ?_;refine dreg_onq [116, 2] [65] rfl rfl rfl rfl (load_box tab_ok rfl rfl rfl rfl) ?_
        refine dreg_onq [116, 117] [] rfl rfl rfl rfl (call_r hline rfl rfl (arg_e arg_nil) (.inl rfl) (fun _ => rfl)) ?_;refine dreg_onq [116, 0] [] rfl rfl rfl rfl (step_C tab_ok (fun K hk => hk)) ?_
        refine dreg_onq [116, 118, 119] [] rfl rfl rfl rfl (eql_s (a := lineE ⟨2, n, zOp, zBk, k⟩) (b := s) tab_ok rfl rfl rfl) ?_;refine dQ [116, 120] [] iU ?_;refine dreg_s [2, 113] [65] (store_row tab_ok rfl rfl rfl ⟨_, ⟨rfl, rfl, rfl⟩, rfl⟩ rfl) ?_
        refine dC [121] [] ?_;refine dreg_end (by kernel_rfl) ?_;refine seq_n ?_;refine wc_ret ?_
        exact ⟨trivial, _, rfl, [], .of rfl rfl rfl rfl rfl ⟨⟨_, rfl, ev_le 2 n k _⟩, rfl, trivial⟩ trivial⟩
      | true =>
        cases bb with
        | false =>
          refine rC ?_;refine nQ ?_;refine wG ?_;refine wc_exit ?_;refine seq_x ?_;refine loop_x ?_;refine blk_x ?_;refine seq_n ?_;refine qR ?_;iterate 2 refine rC ?_
          refine rP ?_;refine rC ?_;refine rQ iU ?_;refine nS ?_;refine wV ?_;refine wc_region ?_;refine rC ?_;refine rQ (call_r hb rfl rfl (arg_e arg_nil) (.inl rfl) (fun _ => rfl)) ?_
          iterate 4 refine rC ?_
          refine rX ?_;refine rC ?_;refine nR ?_;iterate 2 refine rC ?_
          refine nS ?_;refine wV ?_;refine sR ?_;refine rQ iM ?_;refine rW ?_;refine rC ?_;refine nS ?_;refine wc_ret ?_;refine blk_r ?_;refine seq_r ?_
          exact ⟨trivial, _, rfl, [], .of rfl rfl rfl rfl rfl ⟨⟨_, rfl, ev_le2 2 n k vb _⟩, rfl, trivial⟩ trivial⟩
        | true =>
          obtain ⟨v, hv⟩ : ∃ v, v = vb := ⟨_, rfl⟩
          subst hv
          have hok : HEv.Ok ⟨2, n, zOp, v, k⟩ := ⟨show (0 : Int) ≤ 2 ∧ (2 : Int) ≤ 255 by decide, ⟨hn0, hn1⟩, zop_ok, hbl rfl, by rcases hkr with h | h | h | h <;> (simp only [h]; decide)⟩
          have hline := FnIs.args_le (zev_args 2 n k v) (hline_is ⟨2, n, zOp, v, k⟩ hok (show zOp.data.length ≤ 64 by decide))
          refine rC ?_;refine nQ ?_;refine wG ?_;refine wc_exit ?_;refine seq_x ?_;refine loop_x ?_;refine blk_x ?_;refine seq_n ?_;refine qR ?_;iterate 2 refine rC ?_
          refine rP ?_;refine rC ?_;refine rQ iU ?_;refine nS ?_;refine wV ?_;refine wc_region ?_;refine rC ?_;refine rQ (call_r hb rfl rfl (arg_e arg_nil) (.inl rfl) (fun _ => rfl)) ?_
          iterate 4 refine rC ?_
          refine rX ?_;refine rC ?_;refine nR ?_;iterate 2 refine rC ?_
          refine nS ?_;refine wG ?_;refine wc_skip ?_;refine blk_n ?_;refine seq_n ?_;refine wc_seq ?_;refine wc_draw (by kernel_rfl) ?_;refine dQ [2] [65] iM ?_;refine dC [10] [] ?_
          refine dQ [114] [] (eql_nilI Tryz.underlying122 rfl) ?_;refine dC [115] [] ?_;refine dreg_onq [116, 2] [65] rfl rfl rfl rfl (load_box tab_ok rfl rfl rfl rfl) ?_
          refine dreg_onq [116, 117] [] rfl rfl rfl rfl (call_r hline rfl rfl (arg_e arg_nil) (.inl rfl) (fun _ => rfl)) ?_;refine dreg_onq [116, 0] [] rfl rfl rfl rfl (step_C tab_ok (fun K hk => hk)) ?_
          refine dreg_onq [116, 118, 119] [] rfl rfl rfl rfl (eql_s (a := lineE ⟨2, n, zOp, v, k⟩) (b := s) tab_ok rfl rfl rfl) ?_;refine dQ [116, 120] [] iU ?_;refine dreg_s [2, 113] [65] (store_row tab_ok rfl rfl rfl ⟨_, ⟨rfl, rfl, rfl⟩, rfl⟩ rfl) ?_
          refine dC [121] [] ?_;refine dreg_end (by kernel_rfl) ?_;refine seq_n ?_;refine wc_ret ?_
          exact ⟨trivial, _, rfl, [], .of rfl rfl rfl rfl rfl ⟨⟨_, rfl, ev_le2 2 n k v _⟩, rfl, trivial⟩ trivial⟩
  · obtain ⟨w, rfl, hi4, hkw, _⟩ := words_at hl
    by_cases hw : w = word
    · have dw : decide (w = word) = true := decide_eq_true hw
      refine rC ?_;refine nQ ?_;refine wV ?_;refine kS ?_;refine wc_block ?_;refine sR ?_;refine rQ (entry_map (κ := Int) (enc := i6) (l := wordsL) (i := i) rfl rfl rfl rfl hl) ?_
      iterate 4 refine rC ?_
      refine nR ?_;iterate 2 refine rC ?_
      refine rQ (eql_s (a := w) (b := word) tab_ok rfl rfl rfl) ?_;refine nS ?_;refine wT ?_;refine wc_region ?_;iterate 2 refine rC ?_
      refine rX ?_;refine rC ?_;refine reg_nil ?_;refine blk_n ?_
      subst hw
      exact loop_n (seen ++ [i], some k) [] (FndIs.hit (f := f) hl hkw) (left_lt hi4 hs') (.of rfl rfl rfl rfl rfl ⟨⟨_, rfl, .refl _⟩, rfl, ⟨_, rfl, .refl _⟩, rfl, ⟨_, rfl, .refl _⟩, rfl, ⟨_, rfl, .refl _⟩, rfl, ⟨_, rfl, .refl _⟩, rfl, ⟨_, rfl, .refl _⟩, rfl, ⟨_, rfl, .refl _⟩, rfl, ⟨_, rfl, .refl _⟩, rfl, trivial⟩ ⟨⟨rfl, rfl, _, rfl, .refl _⟩, ⟨rfl, rfl, _, rfl, .refl _⟩, ⟨rfl, rfl, _, rfl, .refl _⟩, trivial⟩)
    · have dw : decide (w = word) = false := decide_eq_false hw
      refine rC ?_;refine nQ ?_;refine wV ?_;refine kS ?_;refine wc_block ?_;refine sR ?_;refine rQ (entry_map (κ := Int) (enc := i6) (l := wordsL) (i := i) rfl rfl rfl rfl hl) ?_
      iterate 4 refine rC ?_
      refine nR ?_;iterate 2 refine rC ?_
      refine rQ (eql_s (a := w) (b := word) tab_ok rfl rfl rfl) ?_;refine nS ?_;refine wF ?_;refine wc_skip ?_;refine blk_n ?_
      exact loop_n (seen ++ [i], f) [] (FndIs.miss hf hl hw) (left_lt hi4 hs') (.of rfl rfl rfl rfl rfl ⟨⟨_, rfl, .refl _⟩, rfl, ⟨_, rfl, .refl _⟩, rfl, ⟨_, rfl, .refl _⟩, rfl, ⟨_, rfl, .refl _⟩, rfl, ⟨_, rfl, .refl _⟩, rfl, ⟨_, rfl, .refl _⟩, rfl, ⟨_, rfl, .refl _⟩, rfl, ⟨_, rfl, .refl _⟩, rfl, trivial⟩ ⟨⟨rfl, rfl, _, rfl, .refl _⟩, ⟨rfl, rfl, _, rfl, .refl _⟩, ⟨rfl, rfl, _, rfl, .refl _⟩, trivial⟩)
end Go.Proofs.YtmojbghcngdkpaaGreatDoor

namespace Go.Proofs.YtmojbghcngdkpaaGreatDoor
open Go.Eng Go.Plain
set_option maxHeartbeats 8000000
set_option maxRecDepth 20000
set_option linter.unusedVariables false
set_option linter.unusedSimpArgs false
attribute [local irreducible] WC RegS RegD SeqQ BlkQ ScoQ RegK CutK Sat SatN FnIs LoopQ StepIs OpIs
def joinL : List (List UInt8) → List UInt8
  | [] => []
  | [w] => w
  | w :: v :: ws => w ++ 32 :: joinL (v :: ws)
def j32 (w : List UInt8) : List UInt8 := w ++ [32]
def joinP (ws : List (List UInt8)) (k : Nat) : List UInt8 := if k < ws.length then (ws.take k).flatMap j32 else joinL ws
abbrev rdR (y : HEv) (b : Bool) : AV := .tup (.acons (.d (encEv y)) (.acons (.int .i64 (if b then 1 else 0)) .anil))
end Go.Proofs.YtmojbghcngdkpaaGreatDoor

namespace Go.Proofs.YtmojbghcngdkpaaGreatDoor
open Go.Eng Go.Plain
set_option maxHeartbeats 8000000
set_option maxRecDepth 20000
set_option linter.unusedVariables false
set_option linter.unusedSimpArgs false
attribute [local irreducible] WC RegS RegD SeqQ BlkQ ScoQ RegK CutK Sat SatN FnIs LoopQ StepIs OpIs
def errs4 : List Int := [0, 1, 8, 9]
def keyUp (c : List UInt8) (i : Nat) : Int := (errs4.take i).foldl (fun a e => if rword e = c then e else a) 0
def cpL (l : List Int) (i : Nat) : List Int := l.take i ++ List.replicate (32 - i) 0
abbrev rvBox (n e : Int) (v : List Int) : Row := .box 59 (.d (.cons (u8s 2) (.cons (i6 n) (.cons zPOp (.cons (.vec 32 1 encU8 v) (.cons (i6 e) .nil))))))
end Go.Proofs.YtmojbghcngdkpaaGreatDoor

namespace Go.Proofs.YtmojbghcngdkpaaGreatDoor
open Go.Eng Go.Plain
abbrev RdIs (s : List UInt8) : Prop := ∃ y, FnIs Tryz.prog 70 [.d (strD s)] [] (rdR y (evR s).isSome) [] ∧ ∀ x, evR s = some x → y = x
end Go.Proofs.YtmojbghcngdkpaaGreatDoor

namespace Go.Proofs.YtmojbghcngdkpaaGreatDoor
open Go.Eng Go.Plain
set_option linter.unusedVariables false
theorem cutA_len (l : List UInt8) (c : UInt8) : (cutA l c).1.length ≤ l.length ∧ (cutA l c).2.1.length ≤ l.length ∧ ((cutA l c).2.1 = [] ∨ (cutA l c).1.length + 1 + (cutA l c).2.1.length = l.length) := by
  unfold cutA
  cases h : cutL l c with
  | none => exact ⟨Nat.le_refl _, Nat.zero_le _, .inl rfl⟩
  | some pq =>
    obtain ⟨p, q⟩ := pq
    have := (cutL_some h).1
    have hl : l.length = p.length + 1 + q.length := by rw [this]; simp; omega
    exact ⟨by simp only; omega, by simp only; omega, .inr (by simp only; omega)⟩
theorem fin_none {s : List UInt8} {x : HEv} : finE s false x = none := by rw [finE, if_neg (fun h => by cases h.1)]
theorem fin_true {s : List UInt8} {x : HEv} : finE s true x = if lineE x = s then some x else none := by
  unfold finE
  by_cases h : lineE x = s
  · rw [if_pos ⟨rfl, h⟩, if_pos h]
  · rw [if_neg (fun q => h q.2), if_neg h]
abbrev EvIs (s : List UInt8) : Prop := ∃ y, FnIs Tryz.prog 73 [.d (strD s)] [] (evR2 y (evP s).isSome) [] ∧ ∀ x, evP s = some x → y = x
theorem evIs_fin {s : List UInt8} {ok : Bool} {x : HEv} (he : evP s = finE s ok x) (hf : FnIs Tryz.prog 73 [.d (strD s)] [] (evR2 x (ok && decide (lineE x = s))) []) : EvIs s := by
  refine ⟨x, ?_, fun y hy => ?_⟩
  · have : (evP s).isSome = (ok && decide (lineE x = s)) := by
      rw [he]
      cases ok with
      | false => rw [fin_none]; rfl
      | true =>
        rw [fin_true]
        by_cases h : lineE x = s
        · rw [if_pos h, decide_eq_true h]; rfl
        · rw [if_neg h, decide_eq_false h]; rfl
    rw [this]; exact hf
  · rw [he] at hy
    exact (fin_some hy).2.2
theorem evIs_none {s : List UInt8} {x : HEv} (he : evP s = none) (hf : FnIs Tryz.prog 73 [.d (strD s)] [] (evR2 x false) []) : EvIs s :=
  ⟨x, by rw [he]; exact hf, fun y hy => by rw [he] at hy; cases hy⟩
theorem event_is (s : List UInt8) (hs : s.length ≤ 1048576) : EvIs s := by
  by_cases hc : s = sCrash
  · have he : evP s = some crashE := by rw [evP, if_pos hc]
    exact ⟨crashE, by rw [he]; exact event_crash s hc, fun x hx => by rw [he] at hx; cases hx; rfl⟩
  obtain ⟨kind, r1, b1, hk1⟩ : ∃ a b c, cutA s 32 = (a, b, c) := ⟨_, _, _, rfl⟩
  obtain ⟨cl, rest, b2, hk2⟩ : ∃ a b c, cutA r1 32 = (a, b, c) := ⟨_, _, _, rfl⟩
  have l1 := cutA_len s 32
  have l2 := cutA_len r1 32
  rw [hk1] at l1
  rw [hk2] at l2
  simp only at l1 l2
  have c1 := cut_is (l := s) (c := 32) (by omega)
  have c2 := cut_is (l := r1) (c := 32) (by omega)
  have a := atoi_is (l := cl) (by omega)
  rw [hk1] at c1
  rw [hk2] at c2
  have H : HeadIs s kind r1 cl rest b1 b2 (atoiOk cl) (atoiV cl) := ⟨c1, c2, a⟩
  have hev : evP s = if kind = sInvoke then
      match parseP (sClient ++ 10 :: (rest ++ [10])) [] 1 with
      | ([[o]], _, e) => if e = 0 then finE s (atoiOk cl) ⟨1, atoiV cl, o, zBk, 0⟩ else none
      | _ => none
    else if kind = sReturn then
      match keyOf (cutA rest 32).1 with
      | none => none
      | some k => if (cutA rest 32).2.2 = true then
          match blockP (cutA rest 32).2.1 with
          | none => none
          | some v => finE s (atoiOk cl) ⟨2, atoiV cl, zOp, v, k⟩
        else finE s (atoiOk cl) ⟨2, atoiV cl, zOp, zBk, k⟩
    else none := by
    rw [evP, if_neg hc, hk1]
    simp only
    rw [hk2]
    rfl
  by_cases hi : kind = sInvoke
  · rw [if_pos hi] at hev
    have hkl : kind.length = 6 := by rw [hi]; rfl
    have hrl : rest.length ≤ 1048568 := by
      rcases l1.2.2 with e | e
      · have : r1.length = 0 := by rw [e]; rfl
        omega
      · rcases l2.2.2 with e2 | e2
        · have : rest.length = 0 := by rw [e2]; rfl
          omega
        · omega
    have hp := parse_is (sClient ++ [10] ++ rest ++ [10]) (by simp [sClient]; omega)
    have htx : sClient ++ [10] ++ rest ++ [10] = sClient ++ 10 :: (rest ++ [10]) := by simp
    obtain ⟨l, k, e, hP⟩ : ∃ l k e, parseP (sClient ++ 10 :: (rest ++ [10])) [] 1 = (l, k, e) := ⟨_, _, _, rfl⟩
    rw [show parseP (sClient ++ [10] ++ rest ++ [10]) [] 1 = (l, k, e) by rw [htx]; exact hP] at hp
    simp only at hp
    rw [hP] at hev
    by_cases hyes : atoiOk cl = true ∧ e = 0 ∧ l.length = 1 ∧ ∀ p, l[0]? = some p → p.length = 1
    · obtain ⟨hok, rfl, hl1, hl2⟩ := hyes
      obtain ⟨p, rfl⟩ : ∃ p, l = [p] := List.length_eq_one_iff.1 hl1
      obtain ⟨o, rfl⟩ : ∃ o, p = [o] := List.length_eq_one_iff.1 (hl2 p rfl)
      simp only [if_pos] at hev
      obtain ⟨q1, q2, _⟩ := parse_line2 hP
      obtain ⟨r1', r2'⟩ := atoi_range hok
      rw [hok] at H hev
      refine evIs_fin hev ?_
      rw [Bool.true_and]
      exact event_inv s kind r1 cl rest b1 b2 (atoiV cl) H hc hi hrl o k hp ⟨show (0 : Int) ≤ 1 ∧ (1 : Int) ≤ 255 by decide, ⟨r1', r2'⟩, q1, rfl, by show (-9223372036854775808 : Int) ≤ 0 ∧ (0 : Int) ≤ 9223372036854775807; decide⟩ q2 _ rfl
    · refine evIs_none ?_ (event_inv_no s kind r1 cl rest b1 b2 (atoiOk cl) (atoiV cl) H hc hi hrl l k e hp hyes)
      rw [hev]
      split
      · rename_i o k' e' heq
        cases heq
        split
        · rename_i he0
          cases hok : atoiOk cl with
          | false => exact fin_none
          | true => exact absurd ⟨hok, he0, rfl, fun p hp => by cases hp; rfl⟩ hyes
        · rfl
      · rfl
  rw [if_neg hi] at hev
  by_cases hr : kind = sReturn
  · rw [if_pos hr] at hev
    obtain ⟨word, value, more, hk3⟩ : ∃ a b c, cutA rest 32 = (a, b, c) := ⟨_, _, _, rfl⟩
    have l3 := cutA_len rest 32
    rw [hk3] at l3 hev
    simp only at l3 hev
    have c3 := cut_is (l := rest) (c := 32) (by omega)
    rw [hk3] at c3
    have hbk : ∃ vb bb, FnIs Tryz.prog 119 [.d (strD value)] [] (blkR vb bb) [] ∧ (bb = true → vb.length = 32) ∧ (blockP value = if bb = true then some vb else none) := by
      cases hb : blockP value with
      | none =>
        obtain ⟨v, hv⟩ := block_none value hb (by omega)
        exact ⟨v, false, hv, (fun h => by cases h), by rw [if_neg (by decide)]⟩
      | some v => exact ⟨v, true, block_some value v hb, fun _ => block_len hb, by rw [if_pos rfl]⟩
    obtain ⟨vb, bb, hb1, hb2, hb3⟩ := hbk
    have hF : FnIs Tryz.prog 73 [.d (strD s)] [] (evR2 (evRet s (atoiV cl) (atoiOk cl) more bb vb (keyOf word)).1 (evRet s (atoiV cl) (atoiOk cl) more bb vb (keyOf word)).2) [] := by
      cases hok : atoiOk cl with
      | false =>
        rw [hok] at H
        exact event_ret_false s kind r1 cl rest word value b1 b2 more bb (atoiV cl) vb H hc hr c3 hb1 hb2
      | true =>
        obtain ⟨q1, q2⟩ := atoi_range hok
        rw [hok] at H
        exact event_ret_true s kind r1 cl rest word value b1 b2 more bb (atoiV cl) vb H hc hr c3 hb1 hb2 q1 q2
    cases hkw : keyOf word with
    | none =>
      rw [hkw] at hF hev
      exact evIs_none hev hF
    | some k =>
      rw [hkw] at hF hev
      simp only at hev
      unfold evRet at hF
      simp only at hF
      cases more with
      | false =>
        simp only [Bool.false_eq_true, if_false, Bool.true_and] at hF hev
        exact evIs_fin hev hF
      | true =>
        simp only [if_true] at hF hev
        rw [hb3] at hev
        cases bb with
        | false =>
          simp only [Bool.false_eq_true, if_false, Bool.false_and] at hF hev
          exact evIs_none hev hF
        | true =>
          simp only [if_true, Bool.true_and] at hF hev
          exact evIs_fin hev hF
  · rw [if_neg hr] at hev
    exact evIs_none hev (event_other s kind r1 cl rest b1 b2 (atoiOk cl) (atoiV cl) H hc hi hr)
end Go.Proofs.YtmojbghcngdkpaaGreatDoor

namespace Go.Proofs.YtmojbghcngdkpaaGreatDoor
open Go.Eng Go.Plain
set_option maxHeartbeats 8000000
set_option maxRecDepth 20000
set_option linter.unusedVariables false
attribute [local irreducible] WC RegS RegD SeqQ BlkQ ScoQ RegK CutK Sat SatN FnIs LoopQ StepIs OpIs
abbrev hpR (l : List HEv) (n : Nat) (e : Int) : AV := .tup (.acons (.d (encHX l)) (.acons (.int .i64 n) (.acons (.d (i6 e)) .anil)))
structure HPInv (s0 : List UInt8) (rd : RdS) (h : List HEv) (s : List UInt8) : Prop where
  rok : rd.Ok h.length
  len : h.length ≤ 8192
  sl : s.length ≤ 1048576
  eq : hparse s rd h (h.length + 1) = hparse s0 rd0 [] 1
theorem hparse_main (s0 : List UInt8) (hl : s0.length ≤ 1048576) : FnIs Tryz.prog 30 [.d (strD s0)] [] (hpR (hparse s0 rd0 [] 1).1 (hparse s0 rd0 [] 1).2.1 (hparse s0 rd0 [] 1).2.2) [] := by
  have h0 : decide ((1048576 : Int) < (s0.length : Int)) = false := decide_eq_false (by omega)
  refine fnIs_of tab_ok Tryz.func30 rfl rfl rfl ?_;refine sR ?_;iterate 3 refine rC ?_
  refine nQ ?_;refine sR ?_;refine rC ?_;refine rQ (len_s tab_ok rfl rfl) ?_;refine rC ?_;refine nS ?_;refine wF ?_;refine kS ?_;refine sR ?_;refine rQ iS ?_;refine rN ?_
  refine rC ?_;refine nR ?_;iterate 3 refine rC ?_
  refine nQ ?_;refine sR ?_;refine rC ?_;refine nS ?_;refine wc_block ?_
  refine wc_inv (fun q : RdS × List HEv × List UInt8 => ⟨[(0, .d (strD q.2.2)), (2, .own 66 0 q.2.1.length 38 none), (3, .int .i64 ((q.2.1.length + 1 : Nat) : Int)), (6, fnT 64)], [(64, some (rdRow q.1 65)), (65, some (opRow q.1.all)), (66, some (.ds 59 38 false encEv q.2.1))], 72, Tryz.f30.ntmps, 64⟩) (fun q => HPInv s0 q.1 q.2.1 q.2.2) (fun q => q.2.2.length) (rd0, [], s0) [(64, some 120), (65, none), (66, none)] ⟨rd0_ok, Nat.zero_le _, hl, rfl⟩
    (.of rfl rfl rfl rfl rfl ⟨⟨_, rfl, .refl _⟩, rfl, ⟨_, rfl, .refl _⟩, rfl, ⟨_, rfl, .refl _⟩, rfl, ⟨_, rfl, .refl _⟩, rfl, trivial⟩ ⟨⟨rfl, rfl, _, rfl, rd0_le⟩, ⟨rfl, rfl, rfl⟩, ⟨rfl, rfl, rfl⟩, trivial⟩) ?_
  rintro ⟨rd, h, s⟩ hs
  simp only at hs
  refine wc_of ?_
  have hsl := hs.sl
  have hle := hs.len
  have hn : h.length ≤ 1000000 := by omega
  have hal : h.length + 1 ≤ 1048576 := by omega
  have hw1 : IntKind.i64.wrap (((h.length + 1 : Nat) : Int) + 1) = ((h.length + 1 + 1 : Nat) : Int) := wrap_i64 (by omega) (by omega)
  by_cases hz : s = []
  · have e0 : (!decide (s = [])) = false := by rw [decide_eq_true hz]; rfl
    have he := hs.eq
    rw [hz, hparse_nil] at he
    rw [← he]
    refine qR ?_;refine rC ?_;refine rQ (neq_s (a := s) (b := []) tab_ok rfl rfl rfl) ?_;refine nS ?_;refine wF ?_;refine wc_exit ?_;refine seq_x ?_;refine loop_x ?_
    refine blk_x ?_;refine seq_n ?_;refine sR ?_;refine rC ?_;refine reg_freeze (env' := [(58, _)]) (h' := []) 66 _ rfl ⟨⟨_, rfl, Frz.own rfl⟩, trivial⟩ trivial ?_;refine rQ (call_r (exe_is h (by omega)) rfl rfl (arg_e arg_nil) (.inl rfl) (fun _ => rfl)) ?_
    iterate 3 refine rC ?_
    refine nS ?_;refine wc_ret ?_
    exact ⟨trivial, [], lf⟩
  have e0 : (!decide (s = [])) = true := by rw [decide_eq_false hz]; rfl
  have hcut := cut_is (l := s) (c := 10) (by omega)
  have he := hs.eq
  cases hc : cutL s 10 with
  | none =>
    rw [hparse_none _ _ _ hz hc] at he
    rw [← he]
    rw [cutA, hc] at hcut
    simp only at hcut
    obtain ⟨y, hev, _⟩ := event_is s hsl
    refine qR ?_;refine rC ?_;refine rQ (neq_s (a := s) (b := []) tab_ok rfl rfl rfl) ?_;refine nS ?_;refine wT ?_;refine kS ?_;refine wc_seq ?_;refine wc_block ?_;refine sR ?_
    refine rC ?_;refine rQ (call_r hcut rfl rfl (arg_e (arg_e arg_nil)) (.inl rfl) (fun _ => rfl)) ?_;iterate 7 refine rC ?_
    refine nR ?_;refine rC ?_;refine rQ (call_r hev rfl rfl (arg_e arg_nil) (.inl rfl) (fun _ => rfl)) ?_;iterate 3 refine rC ?_
    refine rN ?_;refine rW ?_;refine rC ?_;refine nQ ?_;refine wc_block ?_;refine sR ?_;iterate 3 refine rC ?_
    iterate 2 refine rT ?_
    refine rQ iU ?_;refine rC ?_;refine nS ?_;refine wV ?_;refine sR ?_;iterate 4 refine rC ?_
    refine nS ?_;refine wc_ret ?_;refine blk_r ?_;refine seq_r ?_;refine blk_r ?_;refine seq_r ?_;refine loop_r ?_;refine blk_r ?_;refine seq_r ?_
    exact ⟨trivial, [], .of rfl rfl rfl rfl rfl ⟨⟨_, rfl, AVLe.tup1 (nil_arx _ _) rfl⟩, rfl, trivial⟩ trivial⟩
  | some tr =>
    obtain ⟨t, r⟩ := tr
    rw [cutA, hc] at hcut
    simp only at hcut
    rw [hparse_some _ _ _ hz hc] at he
    have hlc := (cutL_some hc).1
    have hlen : s.length = t.length + 1 + r.length := by rw [hlc]; simp; omega
    obtain ⟨y, hev, hy⟩ := event_is t (by omega)
    cases hep : evP t with
    | none =>
      rw [hep] at hev he
      simp only [Option.isSome] at hev
      simp only at he
      rw [← he]
      refine qR ?_;refine rC ?_;refine rQ (neq_s (a := s) (b := []) tab_ok rfl rfl rfl) ?_;refine nS ?_;refine wT ?_;refine kS ?_;refine wc_seq ?_;refine wc_block ?_;refine sR ?_
      refine rC ?_;refine rQ (call_r hcut rfl rfl (arg_e (arg_e arg_nil)) (.inl rfl) (fun _ => rfl)) ?_;iterate 7 refine rC ?_
      refine nR ?_;refine rC ?_;refine rQ (call_r hev rfl rfl (arg_e arg_nil) (.inl rfl) (fun _ => rfl)) ?_;iterate 3 refine rC ?_
      refine rN ?_;refine rW ?_;refine rC ?_;refine nQ ?_;refine wc_block ?_;refine sR ?_;iterate 3 refine rC ?_
      refine rP ?_;refine rC ?_;refine rP ?_;refine rC ?_;refine rQ iG ?_;refine rC ?_;refine nS ?_;refine wV ?_;refine sR ?_;iterate 4 refine rC ?_
      refine nS ?_;refine wc_ret ?_;refine blk_r ?_;refine seq_r ?_;refine blk_r ?_;refine seq_r ?_;refine loop_r ?_;refine blk_r ?_;refine seq_r ?_
      exact ⟨trivial, [], .of rfl rfl rfl rfl rfl ⟨⟨_, rfl, AVLe.tup1 (nil_arx _ _) rfl⟩, rfl, trivial⟩ trivial⟩
    | some x =>
      have := hy x hep
      subst this
      obtain ⟨x, rfl⟩ : ∃ x, x = y := ⟨y, rfl⟩
      rw [hep] at hev he
      simp only [Option.isSome] at hev
      simp only at he
      have hxw := (evP_some hep).1
      by_cases h8 : 8192 < h.length + 1
      · have e8 : decide ((8192 : Int) < ((h.length + 1 : Nat) : Int)) = true := decide_eq_true (by omega)
        rw [if_pos h8] at he
        rw [← he]
        refine qR ?_;refine rC ?_;refine rQ (neq_s (a := s) (b := []) tab_ok rfl rfl rfl) ?_;refine nS ?_;refine wT ?_;refine kS ?_;refine wc_seq ?_;refine wc_block ?_;refine sR ?_
        refine rC ?_;refine rQ (call_r hcut rfl rfl (arg_e (arg_e arg_nil)) (.inl rfl) (fun _ => rfl)) ?_;iterate 7 refine rC ?_
        refine nR ?_;refine rC ?_;refine rQ (call_r hev rfl rfl (arg_e arg_nil) (.inl rfl) (fun _ => rfl)) ?_;iterate 3 refine rC ?_
        refine rN ?_;refine rW ?_;refine rC ?_;refine nQ ?_;refine wc_block ?_;refine sR ?_;iterate 3 refine rC ?_
        refine rP ?_;refine rC ?_;refine rP ?_;refine rC ?_;refine rQ iG ?_;refine rC ?_;refine nS ?_;refine wG ?_;refine sR ?_;iterate 3 refine rC ?_
        refine nS ?_;refine wT ?_;refine sR ?_;iterate 4 refine rC ?_
        refine nS ?_;refine wc_ret ?_;refine blk_r ?_;refine seq_r ?_;refine blk_r ?_;refine seq_r ?_;refine loop_r ?_;refine blk_r ?_;refine seq_r ?_
        exact ⟨trivial, [], .of rfl rfl rfl rfl rfl ⟨⟨_, rfl, AVLe.tup1 (nil_arx _ _) rfl⟩, rfl, trivial⟩ trivial⟩
      · have e8 : decide ((8192 : Int) < ((h.length + 1 : Nat) : Int)) = false := decide_eq_false (by omega)
        rw [if_neg h8] at he
        have hdx : x.op.data.length ≤ 1048576 := by
          rcases hxw.2.2 with h | h | h
          · rw [h.2.2.1]; decide
          · have := h.2.2.2.2; omega
          · rw [h.2.1]; decide
        cases hb : (takeS rd x).2 with
        | false =>
          have eb : (!(takeS rd x).2) = true := by rw [hb]; rfl
          rw [hb] at he
          simp only [Bool.false_eq_true, if_false] at he
          rw [← he]
          refine qR ?_;refine rC ?_;refine rQ (neq_s (a := s) (b := []) tab_ok rfl rfl rfl) ?_;refine nS ?_;refine wT ?_;refine kS ?_;refine wc_seq ?_;refine wc_block ?_;refine sR ?_
          refine rC ?_;refine rQ (call_r hcut rfl rfl (arg_e (arg_e arg_nil)) (.inl rfl) (fun _ => rfl)) ?_;iterate 7 refine rC ?_
          refine nR ?_;refine rC ?_;refine rQ (call_r hev rfl rfl (arg_e arg_nil) (.inl rfl) (fun _ => rfl)) ?_;iterate 3 refine rC ?_
          refine rN ?_;refine rW ?_;refine rC ?_;refine nQ ?_;refine wc_block ?_;refine sR ?_;iterate 3 refine rC ?_
          refine rP ?_;refine rC ?_;refine rP ?_;refine rC ?_;refine rQ iG ?_;refine rC ?_;refine nS ?_;refine wG ?_;refine sR ?_;iterate 3 refine rC ?_
          refine nS ?_;refine wF ?_;refine sR ?_;refine rC ?_;refine rQ iM ?_;refine reg_do rfl (call_b [(0, some 64), (1, some 65)] (take_is rd x h.length hs.rok hn) rfl rfl rfl rfl (arg_ptr rfl rfl (arg_e arg_nil)) ⟨⟨rfl, rfl, _, _, rfl, rfl, .refl _⟩, ⟨rfl, rfl, _, _, rfl, rfl, .refl _⟩, trivial⟩ rfl rfl (.inl rfl) rfl rfl) rfl rfl ?_
          iterate 2 refine rC ?_
          refine nS ?_;refine wT ?_;refine sR ?_;iterate 4 refine rC ?_
          refine nS ?_;refine wc_ret ?_;refine blk_r ?_;refine seq_r ?_;refine blk_r ?_;refine seq_r ?_;refine loop_r ?_;refine blk_r ?_;refine seq_r ?_
          exact ⟨trivial, [], .of rfl rfl rfl rfl rfl ⟨⟨_, rfl, AVLe.tup1 (nil_arx _ _) rfl⟩, rfl, trivial⟩ trivial⟩
        | true =>
          have eb : (!(takeS rd x).2) = false := by rw [hb]; rfl
          rw [hb, if_pos rfl] at he
          have hl1 : h.length + 1 = (h ++ [x]).length := by simp
          have hl2 : ((h.length + 1 + 1 : Nat) : Int) = (((h ++ [x]).length + 1 : Nat) : Int) := by simp
          refine qR ?_;refine rC ?_;refine rQ (neq_s (a := s) (b := []) tab_ok rfl rfl rfl) ?_;refine nS ?_;refine wT ?_;refine kS ?_;refine wc_seq ?_;refine wc_block ?_;refine sR ?_
          refine rC ?_;refine rQ (call_r hcut rfl rfl (arg_e (arg_e arg_nil)) (.inl rfl) (fun _ => rfl)) ?_;iterate 7 refine rC ?_
          refine nR ?_;refine rC ?_;refine rQ (call_r hev rfl rfl (arg_e arg_nil) (.inl rfl) (fun _ => rfl)) ?_;iterate 3 refine rC ?_
          refine rN ?_;refine rW ?_;refine rC ?_;refine nQ ?_;refine wc_block ?_;refine sR ?_;iterate 3 refine rC ?_
          refine rP ?_;refine rC ?_;refine rP ?_;refine rC ?_;refine rQ iG ?_;refine rC ?_;refine nS ?_;refine wG ?_;refine sR ?_;iterate 3 refine rC ?_
          refine nS ?_;refine wF ?_;refine sR ?_;refine rC ?_;refine rQ iM ?_;refine reg_do rfl (call_b [(0, some 64), (1, some 65)] (take_is rd x h.length hs.rok hn) rfl rfl rfl rfl (arg_ptr rfl rfl (arg_e arg_nil)) ⟨⟨rfl, rfl, _, _, rfl, rfl, .refl _⟩, ⟨rfl, rfl, _, _, rfl, rfl, .refl _⟩, trivial⟩ rfl rfl (.inl rfl) rfl rfl) rfl rfl ?_
          iterate 2 refine rC ?_
          refine nS ?_;refine wF ?_;refine wc_skip ?_;refine blk_n ?_;refine seq_n ?_;refine sR ?_;refine rC ?_;refine rQ iM ?_;refine rQ (call_r (own_is x hdx) rfl rfl (arg_e arg_nil) (.inl rfl) (fun _ => rfl)) ?_
          refine reg_new (build_slice (s := 38) tab_ok rfl rfl rfl rfl rfl rfl rfl rfl) rfl ?_;refine reg_new2 (append_one (enc := encEv) (s := 38) (xs := h) tab_ok x rfl rfl rfl rfl rfl rfl rfl rfl rfl hal rfl) rfl ?_
          refine rC ?_;refine nS ?_;refine wc_region ?_;iterate 2 refine rC ?_
          refine reg_nil ?_;refine blk_n ?_;refine seq_n ?_;refine wc_region ?_;refine rC ?_;refine rQ (add_int (m := ((h.length + 1 + 1 : Nat) : Int)) tab_ok rfl rfl hw1) ?_
          refine rC ?_;refine reg_nil ?_
          exact loop_n ((takeS rd x).1, h ++ [x], r) [(64, some 64), (65, some _), (66, some _)] ⟨by rw [← hl1]; exact hs.rok.next x, by rw [← hl1]; omega, show r.length ≤ 1048576 by omega, by rw [← hl1]; exact he⟩ (by show r.length < s.length; omega) (.of rfl rfl rfl rfl rfl ⟨⟨_, rfl, .refl _⟩, rfl, ⟨_, rfl, AVLe.of_eq (congrArg (fun n => AV.own _ 0 n 38 none) hl1)⟩, rfl, ⟨_, rfl, AVLe.of_eq (congrArg (fun n => AV.int .i64 n) hl2)⟩, rfl, ⟨_, rfl, .refl _⟩, rfl, trivial⟩ ⟨⟨rfl, rfl, _, rfl, .refl _⟩, ⟨rfl, rfl, _, rfl, .refl _⟩, ⟨rfl, rfl, _, rfl, .refl _⟩, trivial⟩)
end Go.Proofs.YtmojbghcngdkpaaGreatDoor

namespace Go.Proofs.YtmojbghcngdkpaaGreatDoor
open Go.Eng Go.Plain
set_option maxHeartbeats 8000000
set_option maxRecDepth 20000
set_option linter.unusedVariables false
attribute [local irreducible] WC RegS RegD SeqQ BlkQ ScoQ RegK CutK Sat SatN FnIs LoopQ StepIs OpIs
abbrev rhpR (l : List HEv) (n : Nat) (e : Int) : AV := .tup (.acons (.d (encH l)) (.acons (.int .i64 n) (.acons (.int .i64 e) .anil)))
structure RPInv (W : List (List UInt8)) (h : List HEv) (i : Nat) : Prop where
  len : h.length ≤ i
  i8 : i ≤ 8192
  iw : i < W.length
  eq : hparseR (W.drop i) i h = hparseR W 0 []
end Go.Proofs.YtmojbghcngdkpaaGreatDoor

namespace Go.Proofs.YtmojbghcngdkpaaGreatDoor
open Go.Eng Go.Plain
set_option maxHeartbeats 8000000
set_option maxRecDepth 50000
set_option linter.unusedVariables false
attribute [local irreducible] WC RegS RegD SeqQ BlkQ ScoQ RegK CutK Sat SatN FnIs LoopQ StepIs OpIs
def encNE (x : HEv) : D := .cons (u8s x.kind) (.cons (i6 x.client) (.cons (.cons (u8s x.op.kind) (.cons (i6 x.op.index) (.cons (.sc (.slice none 0 0)) .nil))) (.cons (encBk x.value) (.cons (i6 x.err) .nil))))
theorem encNE_le {x : HEv} (h : x.op.data = []) : DLe (encNE x) (encEv x) := by
  obtain ⟨k, c, ⟨ok, oi, od⟩, v, e⟩ := x
  simp only at h
  subst h
  rintro w X cs ⟨c1, r1, rfl, h1, c2, r2, rfl, h2, c3, r3, rfl, h3, h4⟩
  refine ⟨c1, _, rfl, h1, c2, _, rfl, h2, c3, _, rfl, ?_, h4⟩
  obtain ⟨d1, q1, rfl, g1, d2, q2, rfl, g2, d3, q3, rfl, ⟨rfl, _⟩, rfl⟩ := h3
  exact ⟨d1, _, rfl, g1, d2, _, rfl, g2, [.slice none 0 0], [], rfl, .inl ⟨rfl, rfl⟩, rfl⟩
theorem encNE_arr {l : List HEv} (h : ∀ x ∈ l, x.op.data = []) : DLe (.arr 38 encNE l) (encH l) := dle_arr (g := id) (by simp) fun x hx => encNE_le (h x hx)
def b7 : List UInt8 := List.replicate 32 7
def sampleL : List HEv := [⟨1, 0, ⟨1, 1, []⟩, zBk, 0⟩, ⟨1, 1, ⟨3, 0, []⟩, zBk, 0⟩, ⟨2, 0, zOp, b7, 0⟩, ⟨3, 0, zOp, zBk, 0⟩, ⟨1, 0, ⟨1, 1, []⟩, zBk, 0⟩]
theorem sample_is : FnIs Tryz.prog 53 [] [] (.d (encH sampleL)) [] := by
  refine fnIs_of tab_ok Tryz.func53 rfl rfl rfl ?_;refine sR ?_;refine rC ?_;refine nR ?_;refine rQ iS ?_;refine rN ?_;refine rW ?_;refine nR ?_;refine rN ?_;refine nQ ?_
  refine sR ?_;refine rC ?_;refine nS ?_;refine wc_block ?_
  refine wc_inv (fun i : Nat => ⟨[(1, .ptr 64 []), (2, .ptr 65 []), (3, .int .i64 (i : Nat))], [(64, some (.box 50 (.d (.cons (u8s 1) (.cons (i6 1) (.cons (.sc (.slice none 0 0)) .nil)))))), (65, some (.box 52 (.d (.vec 32 1 encU8 (fillL 7 32 i)))))], 120, Tryz.f53.ntmps, 64⟩) (fun i => i ≤ 32) (fun i => 32 - i) 0 [(64, some _), (65, some _)] (Nat.zero_le _)
    (.of rfl rfl rfl rfl rfl ⟨⟨_, rfl, .refl _⟩, rfl, ⟨_, rfl, .refl _⟩, rfl, ⟨_, rfl, .refl _⟩, rfl, trivial⟩ ⟨⟨rfl, rfl, _, rfl, .refl _⟩, ⟨rfl, rfl, _, rfl, .refl _⟩, trivial⟩) ?_
  intro i hi
  refine wc_of ?_
  by_cases hlt : i < 32
  · have c1 : decide ((i : Int) < 32) = true := decide_eq_true (by omega)
    have hg : (fillL 7 32 i)[((i : Int)).toNat]? = some 0 := by rw [Int.toNat_natCast]; exact fillL_get hlt
    have hs := fillL_set (d := 7) hlt
    refine qR ?_;iterate 2 refine rC ?_
    refine nS ?_;refine wT ?_;refine kS ?_;refine wc_seq ?_;refine wc_block ?_;refine wc_region ?_;refine rC ?_;refine rQ (step_C tab_ok (fun K hk => ⟨by omega, by omega, hk⟩)) ?_
    refine reg_store (store_row tab_ok rfl rfl rfl ⟨_, ⟨_, ⟨rfl, _, (7 : Int), hg, ⟨rfl, rfl, rfl⟩, rfl⟩, rfl⟩, rfl⟩ rfl) ?_;refine reg_nil ?_;refine blk_n ?_;refine seq_n ?_
    refine wc_region ?_;refine rC ?_;refine rQ iD ?_;refine rC ?_;refine reg_nil ?_
    exact loop_n (i + 1) [(64, some 64), (65, some 65)] hlt (by omega) (.of rfl rfl rfl rfl rfl ⟨⟨_, rfl, .refl _⟩, rfl, ⟨_, rfl, .refl _⟩, rfl, ⟨_, rfl, .refl _⟩, rfl, trivial⟩ ⟨⟨rfl, rfl, _, rfl, .refl _⟩, ⟨rfl, rfl, _, rfl, RowLe.of_eq (congrArg (fun l => Row.box 52 (.d (.vec 32 1 encU8 l))) hs)⟩, trivial⟩)
  · have c1 : decide ((i : Int) < 32) = false := decide_eq_false (by omega)
    have he : i = 32 := by omega
    subst he
    have hE : fillL 7 32 32 = byI b7 := fillL_end 7 32
    rw [hE]
    refine qR ?_;iterate 2 refine rC ?_
    refine nS ?_;refine wG ?_;refine wc_exit ?_;refine seq_x ?_;refine loop_x ?_;refine blk_x ?_;refine seq_n ?_;refine sR ?_;refine rQ iM ?_;iterate 3 refine rQ iS ?_
    refine rQ iM ?_;iterate 2 refine rQ iS ?_
    refine rQ iM ?_;refine rQ iS ?_;refine rQ (StepIs.frozen (build_slice (s := 38) tab_ok rfl rfl rfl rfl rfl rfl rfl rfl) (Frz.litsN (enc := encNE) sampleL rfl (fun _ _ => rfl))) ?_
    refine rC ?_;refine nS ?_;refine wc_ret ?_
    exact ⟨trivial, [], .of rfl rfl rfl rfl rfl ⟨⟨_, rfl, AVLe.d (encNE_arr (by decide)) rfl⟩, rfl, trivial⟩ trivial⟩
def t1L : List UInt8 := [114, 101, 116, 117, 114, 110, 32, 48, 32, 111, 107, 10]
def t2L : List UInt8 := [105, 110, 118, 111, 107, 101, 32, 56, 32, 102, 108, 117, 115, 104, 10]
def preL : List UInt8 := [105, 110, 118, 111, 107, 101, 32, 48, 32, 114, 101, 97, 100, 32, 49, 10, 105, 110, 118, 111, 107, 101, 32, 49, 32, 102, 108, 117, 115, 104, 10, 114, 101, 116, 117, 114, 110, 32, 48, 32, 111, 107, 32]
def postL : List UInt8 := [10, 99, 114, 97, 115, 104, 10, 105, 110, 118, 111, 107, 101, 32, 48, 32, 114, 101, 97, 100, 32, 49, 10]
def w07 : Nat → List UInt8
  | 0 => []
  | n + 1 => w07 n ++ [48, 55]
theorem w07_len : ∀ n, (w07 n).length = 2 * n
  | 0 => rfl
  | n + 1 => by rw [w07, List.length_append, w07_len n]; simp; omega
def e3 : List Int := [18, 18, 5]
theorem lives24_w (S : List HEv) (O : List HOp) (o0 o1 o2 : HOp) (EE : List (List HEv)) (E0 E1 P1 : List HEv) (T : List UInt8)
    (hS : FnIs Tryz.prog 53 [] [] (.d (encH S)) []) (h1S : 1 ≤ S.length)
    (hc : FnIs Tryz.prog 20 [.d (encH S)] [] (.tup (.acons (.int .i64 0) (.acons (.int .i64 0) .anil))) [])
    (hc1 : FnIs Tryz.prog 20 [.d (encH (S.drop 1))] [] (.tup (.acons (.int .i64 1) (.acons (.int .i64 18) .anil))) [])
    (ho : FnIs Tryz.prog 21 [.d (encH S)] [] (.tup (.acons (.d (encOX O)) (.acons (.int .i64 0) .anil))) [])
    (he : FnIs Tryz.prog 22 [.d (encH S)] [] (.tup (.acons (.d (.arx 1 encHX EE)) (.acons (.int .i64 0) .anil))) [])
    (hp : FnIs Tryz.prog 23 [.d (encH S), .int .i64 1] [] (.tup (.acons (.d (encHX P1)) (.acons (.int .i64 0) .anil))) [])
    (ht : FnIs Tryz.prog 24 [.d (encH S)] [] (.tup (.acons (.d (strD T)) (.acons (.int .i64 0) .anil))) [])
    (hO : O.length = 3) (hO0 : O[((0 : Int)).toNat]? = some o0) (hO1 : O[((1 : Int)).toNat]? = some o1) (hO2 : O[((2 : Int)).toNat]? = some o2)
    (hEE : EE.length = 2) (hE0 : EE[((0 : Int)).toNat]? = some E0) (hE1 : EE[((1 : Int)).toNat]? = some E1) (hl0 : E0.length = 3) (hl1 : E1.length = 1) (hlp : P1.length = 2)
    (hro : FnIs Tryz.prog 27 [.d (encH S)] [] (.d (encOps O)) [])
    (hso : FnIs Tryz.prog 26 [.d (encOps O), .d (encOps O)] [] (.d (i6 1)) [])
    (r0 : o0.returned = 2) (r1 : o1.returned = -1) (r2 : o2.number = 1) (r3 : o2.era = 1) (r4 : o2.invoked = 4)
    (hb01 : FnIs Tryz.prog 54 [.d (encOpn o0), .d (encOpn o1)] [] (.bool false) [])
    (hb12 : FnIs Tryz.prog 54 [.d (encOpn o1), .d (encOpn o2)] [] (.bool true) [])
    (hb20 : FnIs Tryz.prog 54 [.d (encOpn o2), .d (encOpn o0)] [] (.bool false) [])
    (hp1 : FnIs Tryz.prog 30 [.d (strD t1L)] [] (hpR [] 1 18) [])
    (hp2 : FnIs Tryz.prog 30 [.d (strD t2L)] [] (hpR [] 1 18) [])
    (hp3 : FnIs Tryz.prog 30 [.d (strD sCrash)] [] (hpR [] 1 5) [])
    (hT : T = preL ++ w07 32 ++ postL) : FnIs Tryz.prog 18 [] [] (.bool true) [] := by
  have f1 : (!decide ((O.length : Int) = 3)) = false := by rw [decide_eq_true (by omega)]; rfl
  have f2 : (!decide ((EE.length : Int) = 2)) = false := by rw [decide_eq_true (by omega)]; rfl
  have f3 : (!decide ((E0.length : Int) = 3)) = false := by rw [decide_eq_true (by omega)]; rfl
  have f4 : (!decide ((E1.length : Int) = 1)) = false := by rw [decide_eq_true (by omega)]; rfl
  have f5 : (!decide ((P1.length : Int) = 2)) = false := by rw [decide_eq_true (by omega)]; rfl
  have g0 : (!decide (o0.returned = 2)) = false := by rw [decide_eq_true r0]; rfl
  have g1 : (!decide (o1.returned = -1)) = false := by rw [decide_eq_true r1]; rfl
  have g2 : (!decide (o2.number = 1)) = false := by rw [decide_eq_true r2]; rfl
  have g3 : (!decide (o2.era = 1)) = false := by rw [decide_eq_true r3]; rfl
  have g4 : (!decide (o2.invoked = 4)) = false := by rw [decide_eq_true r4]; rfl
  refine fnIs_of tab_ok Tryz.func18 rfl rfl rfl ?_;refine sR ?_;refine rC ?_;refine nR ?_;refine rQ (call_r hS rfl rfl arg_nil (.inl rfl) (fun _ => rfl)) ?_;refine rC ?_
  refine nR ?_;refine rC ?_;refine rQ (call_r hc rfl rfl (arg_e arg_nil) (.inl rfl) (fun _ => rfl)) ?_;iterate 5 refine rC ?_
  refine nR ?_;refine rC ?_;refine rQ (slice_from (m := 1) tab_ok rfl rfl rfl rfl rfl h1S) ?_;refine rQ (call_r hc1 rfl rfl (arg_e arg_nil) (.inl rfl) (fun _ => rfl)) ?_
  iterate 5 refine rC ?_
  refine nR ?_;refine rC ?_;refine rQ (call_r ho rfl rfl (arg_e arg_nil) (.inl rfl) (fun _ => rfl)) ?_;iterate 5 refine rC ?_
  refine nR ?_;refine rC ?_;refine rQ (call_r he rfl rfl (arg_e arg_nil) (.inl rfl) (fun _ => rfl)) ?_;iterate 5 refine rC ?_
  refine nR ?_;refine rC ?_;refine rQ (call_r hp rfl rfl (arg_e (arg_e arg_nil)) (.inl rfl) (fun _ => rfl)) ?_;iterate 5 refine rC ?_
  refine nR ?_;refine rC ?_;refine rQ (call_r ht rfl rfl (arg_e arg_nil) (.inl rfl) (fun _ => rfl)) ?_;iterate 5 refine rC ?_
  refine nQ ?_;refine sR ?_;iterate 3 refine rC ?_
  refine rP ?_;refine rC ?_;refine rP ?_;refine rC ?_;refine rQ iG ?_;refine rC ?_;refine rP ?_;refine rC ?_;refine rP ?_;refine rC ?_;refine rQ iG ?_;refine rC ?_
  refine rP ?_;refine rC ?_;refine rP ?_;refine rC ?_;refine rQ iG ?_;refine rC ?_;refine rP ?_;refine rC ?_;refine rP ?_;refine rC ?_;refine rQ iG ?_;refine rC ?_
  refine rP ?_;refine rC ?_;refine rP ?_;refine rC ?_;refine rQ iG ?_;refine rC ?_;refine rP ?_;refine rC ?_;refine rP ?_;refine rC ?_;refine rQ iG ?_;refine rC ?_
  refine rP ?_;refine rC ?_;refine rP ?_;refine rC ?_;refine rQ iG ?_;refine rC ?_;refine rP ?_;refine rC ?_;refine rP ?_;refine rQ (len_arx tab_ok rfl rfl) ?_;refine rP ?_
  refine rC ?_;refine rQ iG ?_;refine rC ?_;refine rO ?_;refine rC ?_;refine rO ?_;refine rQ (len_arx tab_ok rfl rfl) ?_;refine rO ?_;refine rC ?_;refine rQ iF ?_
  refine rC ?_;refine rO ?_;refine rC ?_;refine rO ?_;refine rQ (index_arx tab_ok rfl rfl rfl rfl rfl (by omega) hE0) ?_;refine rO ?_;refine rQ iL ?_;refine rO ?_
  refine rQ (len_arx tab_ok rfl rfl) ?_;refine rO ?_;refine rC ?_;refine rQ iF ?_;refine rC ?_;refine rO ?_;refine rC ?_;refine rO ?_;refine rQ (index_arx tab_ok rfl rfl rfl rfl rfl (by omega) hE1) ?_
  refine rO ?_;refine rQ iL ?_;refine rO ?_;refine rQ (len_arx tab_ok rfl rfl) ?_;refine rO ?_;refine rC ?_;refine rQ iF ?_;refine rC ?_;refine rO ?_;refine rC ?_
  refine rO ?_;refine rQ (len_arx tab_ok rfl rfl) ?_;refine rO ?_;refine rC ?_;refine rQ iF ?_;refine nS ?_;refine wF ?_;refine kS ?_;refine qR ?_;iterate 2 refine rC ?_
  refine rQ (call_r hro rfl rfl (arg_e arg_nil) (.inl rfl) (fun _ => rfl)) ?_;refine rQ (call_r hso rfl rfl (arg_d rfl trivial DLe.arx_arr (arg_e arg_nil)) (.inl rfl) (fun _ => rfl)) ?_
  iterate 2 refine rC ?_
  refine rP ?_;refine rC ?_;refine rP ?_;refine rQ (index_arx (xs := O) tab_ok rfl rfl rfl rfl rfl (by omega) hO0) ?_;refine rP ?_;refine rC ?_;refine rP ?_;refine rQ iL ?_
  refine rP ?_;refine rC ?_;refine rQ iG ?_;refine rC ?_;refine rO ?_;refine rC ?_;refine rO ?_;refine rQ (index_arx (xs := O) tab_ok rfl rfl rfl rfl rfl (by omega) hO1) ?_
  refine rO ?_;refine rC ?_;refine rO ?_;refine rQ iL ?_;refine rO ?_;refine rC ?_;refine rQ iF ?_;refine rC ?_;refine rO ?_;refine rC ?_;refine rO ?_;refine rQ (index_arx (xs := O) tab_ok rfl rfl rfl rfl rfl (by omega) hO2) ?_
  refine rO ?_;refine rC ?_;refine rO ?_;refine rQ iL ?_;refine rO ?_;refine rC ?_;refine rQ iF ?_;refine rC ?_;refine rO ?_;refine rC ?_;refine rO ?_;refine rQ (index_arx (xs := O) tab_ok rfl rfl rfl rfl rfl (by omega) hO2) ?_
  refine rO ?_;refine rC ?_;refine rO ?_;refine rQ iL ?_;refine rO ?_;refine rC ?_;refine rQ iF ?_;refine rC ?_;refine rO ?_;refine rC ?_;refine rO ?_;refine rQ (index_arx (xs := O) tab_ok rfl rfl rfl rfl rfl (by omega) hO2) ?_
  refine rO ?_;refine rC ?_;refine rO ?_;refine rQ iL ?_;refine rO ?_;refine rC ?_;refine rQ iF ?_;refine nS ?_;refine wF ?_;refine kS ?_;iterate 2 refine wc_seq ?_
  refine wc_draw (by kernel_rfl) ?_;refine dC [6] [] ?_;refine dQ [152] [] (index_arx (xs := O) tab_ok rfl rfl rfl rfl rfl (by omega) hO0) ?_;refine dQ [153] [] iL ?_
  refine dC [6] [] ?_;refine dQ [155] [] (index_arx (xs := O) tab_ok rfl rfl rfl rfl rfl (by omega) hO1) ?_;refine dQ [156] [] iL ?_;refine dQ [154, 157] [] (call_r hb01 rfl rfl (arg_e (arg_e arg_nil)) (.inl rfl) (fun _ => rfl)) ?_
  refine dC [158] [] ?_;refine dreg_onq [159, 6] [] rfl rfl rfl rfl (step_C tab_ok (fun K hk => hk)) ?_;refine dreg_onq [159, 160] [] rfl rfl rfl rfl (index_arx (xs := O) tab_ok rfl rfl rfl rfl rfl (by omega) hO1) ?_
  refine dreg_onq [159, 161] [] rfl rfl rfl rfl (load_i tab_ok rfl rfl) ?_;refine dreg_onq [159, 6] [] rfl rfl rfl rfl (step_C tab_ok (fun K hk => hk)) ?_;refine dreg_onq [159, 163] [] rfl rfl rfl rfl (index_arx (xs := O) tab_ok rfl rfl rfl rfl rfl (by omega) hO2) ?_
  refine dreg_onq [159, 164] [] rfl rfl rfl rfl (load_i tab_ok rfl rfl) ?_;refine dreg_onq [159, 162, 165] [] rfl rfl rfl rfl (call_r hb12 rfl rfl (arg_e (arg_e arg_nil)) (.inl rfl) (fun _ => rfl)) ?_
  refine dreg_onq [159, 166] [] rfl rfl rfl rfl (step_C tab_ok (fun K hk => hk)) ?_;refine dQ [159, 167] [] iG ?_;refine dC [168] [] ?_;refine dreg_onq [169, 6] [] rfl rfl rfl rfl (step_C tab_ok (fun K hk => hk)) ?_
  refine dreg_onq [169, 170] [] rfl rfl rfl rfl (index_arx (xs := O) tab_ok rfl rfl rfl rfl rfl (by omega) hO2) ?_;refine dreg_onq [169, 171] [] rfl rfl rfl rfl (load_i tab_ok rfl rfl) ?_
  refine dreg_onq [169, 6] [] rfl rfl rfl rfl (step_C tab_ok (fun K hk => hk)) ?_;refine dreg_onq [169, 173] [] rfl rfl rfl rfl (index_arx (xs := O) tab_ok rfl rfl rfl rfl rfl (by omega) hO0) ?_
  refine dreg_onq [169, 174] [] rfl rfl rfl rfl (load_i tab_ok rfl rfl) ?_;refine dreg_onq [169, 172, 175] [] rfl rfl rfl rfl (call_r hb20 rfl rfl (arg_e (arg_e arg_nil)) (.inl rfl) (fun _ => rfl)) ?_
  refine dQ [169, 176] [] iG ?_;refine dreg_end (by kernel_rfl) ?_;refine seq_n ?_;refine wG ?_;refine kS ?_;refine sR ?_;refine rC ?_;refine nQ ?_;refine sR ?_;refine rC ?_
  refine nS ?_;refine wc_block ?_
  refine wc_inv (fun i : Nat => ⟨[(12, .d (strD T)), (14, .d (strD (w07 i))), (15, .int .i64 (i : Nat))], [], 2000, Tryz.f18.ntmps, 64⟩) (fun i => i ≤ 32) (fun i => 32 - i) 0 [] (Nat.zero_le _)
    (.of rfl rfl rfl rfl rfl ⟨⟨_, rfl, .refl _⟩, rfl, ⟨_, rfl, .refl _⟩, rfl, ⟨_, rfl, .refl _⟩, rfl, trivial⟩ trivial) ?_
  intro i hi
  refine wc_of ?_
  clear hS hc hc1 ho he hp ht hro hso hb01 hb12 hb20
  by_cases hlt : i < 32
  · have c1 : decide ((i : Int) < 32) = true := decide_eq_true (by omega)
    refine qR ?_;iterate 2 refine rC ?_
    refine nS ?_;refine wT ?_;refine kS ?_;refine wc_seq ?_;refine wc_block ?_;refine wc_region ?_;refine rC ?_
    refine rQ (add_str (a := w07 i) (b := [48, 55]) rfl rfl (by rw [w07_len]; simp; omega) rfl) ?_
    refine rC ?_;refine reg_nil ?_;refine blk_n ?_;refine seq_n ?_;refine wc_region ?_;refine rC ?_;refine rQ iD ?_;refine rC ?_;refine reg_nil ?_
    exact loop_n (i + 1) [] hlt (by omega) (.of rfl rfl rfl rfl rfl ⟨⟨_, rfl, .refl _⟩, rfl, ⟨_, rfl, .refl _⟩, rfl, ⟨_, rfl, .refl _⟩, rfl, trivial⟩ trivial)
  · have c1 : decide ((i : Int) < 32) = false := decide_eq_false (by omega)
    have hie : i = 32 := by omega
    subst hie
    refine qR ?_;iterate 2 refine rC ?_
    refine nS ?_;refine wG ?_;refine wc_exit ?_;refine seq_x ?_;refine loop_x ?_;refine blk_x ?_;refine seq_n ?_;refine qR ?_;refine rQ (StepIs.frozen (build_slice (s := 1) tab_ok rfl rfl rfl rfl rfl rfl rfl rfl) (Frz.litsN (enc := strD) [t1L, t2L, sCrash] rfl (fun _ _ => rfl))) ?_
    refine rQ iE ?_;refine rC ?_;refine nS ?_;refine wc_block ?_
    refine wc_inv (fun i : Nat => ⟨[(12, .d (strD T)), (14, .d (strD (w07 32))), (184, .d (.arr 1 strD [t1L, t2L, sCrash])), (185, .int .i64 3), (186, .int .i64 (i : Nat))], [], 3000, Tryz.f18.ntmps, 64⟩) (fun i => i ≤ 3) (fun i => 3 - i) 0 [] (Nat.zero_le _)
      (.of rfl rfl rfl rfl rfl ⟨⟨_, rfl, .refl _⟩, rfl, ⟨_, rfl, .refl _⟩, rfl, ⟨_, rfl, .refl _⟩, rfl, ⟨_, rfl, .refl _⟩, rfl, ⟨_, rfl, .refl _⟩, rfl, trivial⟩ trivial) ?_
    intro i hi
    refine wc_of ?_
    match i, hi with
    | 0, _ =>
      have hgx : [t1L, t2L, sCrash][(((0 : Nat) : Int)).toNat]? = some t1L := rfl
      have hpx := hp1
      refine sR ?_;refine rC ?_;refine nQ ?_;refine wV ?_;refine kS ?_;refine wc_seq ?_;refine wc_block ?_;refine sR ?_;refine rC ?_;refine rQ (index_arr tab_ok rfl rfl rfl rfl rfl (by omega) hgx) ?_
      refine rQ iL ?_;iterate 2 refine rC ?_
      refine nR ?_;refine rC ?_;refine rQ (call_r hpx rfl rfl (arg_e arg_nil) (.inl rfl) (fun _ => rfl)) ?_;iterate 7 refine rC ?_
      refine nR ?_;refine rC ?_;refine rQ (build_arr tab_ok rfl rfl rfl rfl rfl) ?_;refine rC ?_;refine rQ (step_C tab_ok (fun K hk => ⟨by decide, by decide, _, rfl, hk⟩)) ?_
      iterate 2 refine rC ?_
      refine rP ?_;refine rC ?_;refine rP ?_;refine rC ?_;refine rQ iG ?_;refine nS ?_;refine wG ?_;refine wc_skip ?_;refine blk_n ?_;refine seq_n ?_;refine wc_region ?_
      refine rQ iD ?_;refine rC ?_;refine reg_nil ?_
      exact loop_n 1 [] (by decide) (by decide) (.of rfl rfl rfl rfl rfl ⟨⟨_, rfl, .refl _⟩, rfl, ⟨_, rfl, .refl _⟩, rfl, ⟨_, rfl, .refl _⟩, rfl, ⟨_, rfl, .refl _⟩, rfl, ⟨_, rfl, .refl _⟩, rfl, trivial⟩ trivial)
    | 1, _ =>
      have hgx : [t1L, t2L, sCrash][(((1 : Nat) : Int)).toNat]? = some t2L := rfl
      have hpx := hp2
      refine sR ?_;refine rC ?_;refine nQ ?_;refine wV ?_;refine kS ?_;refine wc_seq ?_;refine wc_block ?_;refine sR ?_;refine rC ?_;refine rQ (index_arr tab_ok rfl rfl rfl rfl rfl (by omega) hgx) ?_
      refine rQ iL ?_;iterate 2 refine rC ?_
      refine nR ?_;refine rC ?_;refine rQ (call_r hpx rfl rfl (arg_e arg_nil) (.inl rfl) (fun _ => rfl)) ?_;iterate 7 refine rC ?_
      refine nR ?_;refine rC ?_;refine rQ (build_arr tab_ok rfl rfl rfl rfl rfl) ?_;refine rC ?_;refine rQ (step_C tab_ok (fun K hk => ⟨by decide, by decide, _, rfl, hk⟩)) ?_
      iterate 2 refine rC ?_
      refine rP ?_;refine rC ?_;refine rP ?_;refine rC ?_;refine rQ iG ?_;refine nS ?_;refine wG ?_;refine wc_skip ?_;refine blk_n ?_;refine seq_n ?_;refine wc_region ?_
      refine rQ iD ?_;refine rC ?_;refine reg_nil ?_
      exact loop_n 2 [] (by decide) (by decide) (.of rfl rfl rfl rfl rfl ⟨⟨_, rfl, .refl _⟩, rfl, ⟨_, rfl, .refl _⟩, rfl, ⟨_, rfl, .refl _⟩, rfl, ⟨_, rfl, .refl _⟩, rfl, ⟨_, rfl, .refl _⟩, rfl, trivial⟩ trivial)
    | 2, _ =>
      have hgx : [t1L, t2L, sCrash][(((2 : Nat) : Int)).toNat]? = some sCrash := rfl
      have hpx := hp3
      refine sR ?_;refine rC ?_;refine nQ ?_;refine wV ?_;refine kS ?_;refine wc_seq ?_;refine wc_block ?_;refine sR ?_;refine rC ?_;refine rQ (index_arr tab_ok rfl rfl rfl rfl rfl (by omega) hgx) ?_
      refine rQ iL ?_;iterate 2 refine rC ?_
      refine nR ?_;refine rC ?_;refine rQ (call_r hpx rfl rfl (arg_e arg_nil) (.inl rfl) (fun _ => rfl)) ?_;iterate 7 refine rC ?_
      refine nR ?_;refine rC ?_;refine rQ (build_arr tab_ok rfl rfl rfl rfl rfl) ?_;refine rC ?_;refine rQ (step_C tab_ok (fun K hk => ⟨by decide, by decide, _, rfl, hk⟩)) ?_
      iterate 2 refine rC ?_
      refine rP ?_;refine rC ?_;refine rP ?_;refine rC ?_;refine rQ iG ?_;refine nS ?_;refine wG ?_;refine wc_skip ?_;refine blk_n ?_;refine seq_n ?_;refine wc_region ?_
      refine rQ iD ?_;refine rC ?_;refine reg_nil ?_
      exact loop_n 3 [] (by decide) (by decide) (.of rfl rfl rfl rfl rfl ⟨⟨_, rfl, .refl _⟩, rfl, ⟨_, rfl, .refl _⟩, rfl, ⟨_, rfl, .refl _⟩, rfl, ⟨_, rfl, .refl _⟩, rfl, ⟨_, rfl, .refl _⟩, rfl, trivial⟩ trivial)
    | 3, _ =>
      have dT : decide (T = preL ++ w07 32 ++ postL) = true := decide_eq_true hT
      refine sR ?_;refine rC ?_;refine nQ ?_;refine wG ?_;refine wc_exit ?_;refine seq_x ?_;refine loop_x ?_;refine blk_x ?_;refine seq_n ?_;refine sR ?_;iterate 2 refine rC ?_
      refine rQ (add_str (a := preL) (b := w07 32) rfl rfl (by rw [w07_len]; decide) rfl) ?_
      refine rQ (add_str (a := preL ++ w07 32) (b := postL) rfl rfl (by rw [List.length_append, w07_len]; decide) rfl) ?_
      refine rQ (eql_s (a := T) (b := preL ++ w07 32 ++ postL) tab_ok rfl rfl rfl) ?_;refine rC ?_;refine nS ?_;refine wc_ret ?_
      exact ⟨trivial, [], .of rfl rfl rfl rfl rfl ⟨⟨_, rfl, AVLe.of_eq (congrArg AV.bool dT)⟩, rfl, trivial⟩ trivial⟩
    | i + 4, hi => exact absurd hi (by omega)
end Go.Proofs.YtmojbghcngdkpaaGreatDoor

namespace Go.Proofs.YtmojbghcngdkpaaGreatDoor
open Go.Eng Go.Plain
set_option maxRecDepth 50000
def sOps : List HOp := [⟨0, 0, 0, ⟨1, 1, []⟩, 0, 2, b7, 0⟩, ⟨1, 0, 0, ⟨3, 0, []⟩, 1, -1, zBk, 0⟩, ⟨0, 1, 1, ⟨1, 1, []⟩, 4, -1, zBk, 0⟩]
theorem sample_chk : chkH sampleL = (0, 0) := by decide +kernel
theorem sample_chk1 : chkH (sampleL.drop 1) = (1, 18) := by decide +kernel
theorem sample_ops : opsH sampleL = sOps := by decide +kernel
theorem sample_opsR : opsR sampleL = sOps := by decide +kernel
theorem sample_eras : erasG sampleL [] [] = [sampleL.take 3, sampleL.drop 4] := by decide +kernel
theorem sample_proj : sampleL.filter (projB 1) = [⟨1, 1, ⟨3, 0, []⟩, zBk, 0⟩, ⟨3, 0, zOp, zBk, 0⟩] := by decide +kernel
theorem sample_text : textE sampleL = preL ++ w07 32 ++ postL := by decide +kernel
theorem sample_ok : ∀ x ∈ sampleL, x.Ok ∧ x.op.data.length ≤ 64 := by
  have h : ∀ x ∈ sampleL, (0 ≤ x.kind ∧ x.kind ≤ 255) ∧ (-9223372036854775808 ≤ x.client ∧ x.client ≤ 9223372036854775807) ∧ (0 ≤ x.op.kind ∧ x.op.kind ≤ 255) ∧ (-9223372036854775808 ≤ x.op.index ∧ x.op.index ≤ 9223372036854775807) ∧ x.value.length = 32 ∧ (-9223372036854775808 ≤ x.err ∧ x.err ≤ 9223372036854775807) ∧ x.op.data.length ≤ 64 := by decide +kernel
  intro x hx
  obtain ⟨h1, h2, h3, h4, h5, h6, h7⟩ := h x hx
  exact ⟨⟨h1, h2, ⟨h3, h4⟩, h5, h6⟩, h7⟩
theorem l1_no (x : HEv) (hw : WfE x) (hl : lineE x ++ [10] = t1L) (ht : (takeS rd0 x).2 = false) : hparse t1L rd0 [] 1 = ([], 1, 18) := by
  have hc : cutL t1L 10 = some (lineE x, []) := by rw [← hl]; exact cutL_is _ (line_no10 hw)
  rw [hparse_some _ _ _ (by decide) hc, evP_line hw]
  simp only
  rw [if_neg (by decide), ht]
  rfl
theorem l2_no (x : HEv) (hw : WfE x) (hl : lineE x ++ [10] = t2L) (ht : (takeS rd0 x).2 = false) : hparse t2L rd0 [] 1 = ([], 1, 18) := by
  have hc : cutL t2L 10 = some (lineE x, []) := by rw [← hl]; exact cutL_is _ (line_no10 hw)
  rw [hparse_some _ _ _ (by decide) hc, evP_line hw]
  simp only
  rw [if_neg (by decide), ht]
  rfl
theorem l3_no : hparse sCrash rd0 [] 1 = ([], 1, 5) := hparse_none _ _ _ (by decide) (by decide)
theorem lives24_is : FnIs Tryz.prog 18 [] [] (.bool true) [] := by
  have hc := hcheck_is sampleL (by decide)
  rw [sample_chk] at hc
  have hc1 := hcheck_is (sampleL.drop 1) (by decide)
  rw [sample_chk1] at hc1
  have ho := hops_is sampleL (by decide) (by rw [show (rdH sampleL).all = sOps by decide +kernel]; decide)
  rw [sample_ops, sample_chk] at ho
  have he := heras_is sampleL (by decide) (fun x hx => Nat.le_trans (sample_ok x hx).2 (by decide))
  rw [sample_chk, if_pos rfl, sample_eras] at he
  have hp := hproj_is sampleL 1 (by decide) (fun x hx => Nat.le_trans (sample_ok x hx).2 (by decide))
  rw [show projE 1 sampleL = 0 by rw [projE, sample_chk]; decide, if_pos rfl, sample_proj] at hp
  have ht := htext_is sampleL (by decide) (fun _ => by decide) (fun _ => sample_ok) (fun _ => by rw [sample_text]; decide)
  rw [sample_chk, if_pos rfl] at ht
  have hro := rops_is sampleL (by decide)
  rw [sample_opsR] at hro
  have hso := sameops_is sOps sOps (by decide)
  rw [if_pos rfl] at hso
  have hb01 := before_is ⟨0, 0, 0, ⟨1, 1, []⟩, 0, 2, b7, 0⟩ ⟨1, 0, 0, ⟨3, 0, []⟩, 1, -1, zBk, 0⟩
  have hb12 := before_is ⟨1, 0, 0, ⟨3, 0, []⟩, 1, -1, zBk, 0⟩ ⟨0, 1, 1, ⟨1, 1, []⟩, 4, -1, zBk, 0⟩
  have hb20 := before_is ⟨0, 1, 1, ⟨1, 1, []⟩, 4, -1, zBk, 0⟩ ⟨0, 0, 0, ⟨1, 1, []⟩, 0, 2, b7, 0⟩
  have hp1 := hparse_main t1L (by decide)
  rw [l1_no ⟨2, 0, zOp, zBk, 0⟩ ⟨by decide, by decide, .inr (.inr ⟨rfl, rfl, rfl, rfl, fun h => absurd rfl h⟩)⟩ (by decide +kernel) (by decide +kernel)] at hp1
  have hp2 := hparse_main t2L (by decide)
  rw [l2_no ⟨1, 8, ⟨3, 0, []⟩, zBk, 0⟩ ⟨by decide, by decide, .inr (.inl ⟨rfl, rfl, rfl, ⟨by decide, by decide⟩, by decide⟩)⟩ (by decide +kernel) (by decide +kernel)] at hp2
  have hp3 := hparse_main sCrash (by decide)
  rw [l3_no] at hp3
  exact lives24_w sampleL sOps _ _ _ _ _ _ _ (textE sampleL) sample_is (by decide) hc hc1 ho he hp ht rfl rfl rfl rfl rfl rfl rfl rfl rfl rfl hro hso rfl rfl rfl rfl rfl hb01 hb12 hb20 hp1 hp2 hp3 sample_text
end Go.Proofs.YtmojbghcngdkpaaGreatDoor

namespace Go.Proofs.YtmojbghcngdkpaaGreatDoor
open Go.Eng Go.Plain
set_option linter.unusedVariables false
theorem take_all_len (s : RdS) (x : HEv) : (takeS s x).1.all.length ≤ s.all.length + 1 := by
  unfold takeS
  simp only
  split
  · split
    · simp
    · simp
  · split
    · split
      · simp only
        cases opOf s x <;> simp
      · simp
    · split <;> simp
theorem goS_all_len : ∀ (h : List HEv) (s : RdS) (i : Nat), (goS s h i).1.all.length ≤ s.all.length + h.length
  | [], s, i => by simp [goS]
  | x :: h, s, i => by
    rw [goS_take]
    have h1 := take_all_len s x
    split
    · have := goS_all_len h (takeS s x).1 (i + 1)
      simp only [List.length_cons]
      omega
    · simp only [List.length_cons]
      omega
theorem rdH_all_len (h : List HEv) : (rdH h).all.length ≤ h.length := by
  unfold rdH
  split
  · simp [rd0]
  · have := goS_all_len h rd0 0
    simpa [rd0] using this
theorem take_wf {s : RdS} {n : Nat} (hs : s.Ok n) {x : HEv} (hx : x.Ok) (h : (takeS s x).2 = true) : WfE x := by
  refine ⟨hx.client.1, hx.client.2, ?_⟩
  rcases take_kind h with ⟨k, hi⟩ | ⟨k, hi⟩ | ⟨k, hi⟩
  · obtain ⟨_, _, _, h1, h2, h3⟩ := inv1_out hi
    exact .inr (.inl ⟨k, h2, h3, hx.op, h1⟩)
  · obtain ⟨_, _, h1, h2, b, o, _, _, _, _, h3⟩ := ret1_out hs hi
    refine .inr (.inr ⟨k, h1, h2, hx.value, fun hz => ?_⟩)
    rcases h3 with h3 | ⟨_, h3⟩
    · exact absurd h3 hz
    · exact h3
  · simp only [crash1, Bool.and_eq_true, decide_eq_true_eq] at hi
    exact .inl ⟨k, hi.1.1.1, hi.1.1.2, hi.1.2, hi.2⟩
theorem goS_wf : ∀ (h : List HEv) (s : RdS) (n i : Nat), s.Ok n → (∀ x ∈ h, x.Ok) → (goS s h i).2 < 0 → ∀ x ∈ h, WfE x
  | [], s, n, i, _, _, _, x, hx => by cases hx
  | y :: h, s, n, i, hs, hok, hg, x, hx => by
    rw [goS_take] at hg
    cases hb : (takeS s y).2 with
    | false => rw [hb] at hg; simp at hg; omega
    | true =>
      rw [hb, if_pos rfl] at hg
      rcases List.mem_cons.1 hx with rfl | hx
      · exact take_wf hs (hok x (by simp)) hb
      · exact goS_wf h _ (n + 1) (i + 1) (hs.next y) (fun z hz => hok z (by simp [hz])) hg x hx
theorem chk_go {h : List HEv} (hc : (chkH h).2 = 0) : h.length ≤ 8192 ∧ (goS rd0 h 0).2 < 0 ∧ (chkH h).1 = 0 := by
  unfold chkH at hc ⊢
  by_cases h8 : 8192 < h.length
  · rw [if_pos h8] at hc; cases hc
  · rw [if_neg h8] at hc ⊢
    by_cases h0 : 0 ≤ (goS rd0 h 0).2
    · rw [if_pos h0] at hc; cases hc
    · rw [if_neg h0]
      exact ⟨by omega, by omega, rfl⟩
theorem chk_wf {h : List HEv} (hok : ∀ x ∈ h, x.Ok) (hc : (chkH h).2 = 0) : ∀ x ∈ h, WfE x := by
  obtain ⟨_, h2, _⟩ := chk_go hc
  exact goS_wf h rd0 0 0 rd0_ok hok h2
theorem wf_data {x : HEv} (h : WfE x) : x.op.data.length ≤ 64 := by
  rcases h.2.2 with h | h | h
  · rw [h.2.2.1]; decide
  · exact h.2.2.2.2
  · rw [h.2.1]; decide
theorem wordE_len (e : Int) : (wordE e).length ≤ 9 := by
  unfold wordE
  repeat' split
  all_goals decide
theorem lineE_len {x : HEv} (h : WfE x) : (lineE x).length ≤ 300 := by
  have hi := itoa_len h.1 h.2.1
  rcases h.2.2 with ⟨h1, _⟩ | ⟨h1, _, _, h4, h5⟩ | ⟨h1, _, h3, h4, h5⟩
  · rw [lineE, if_pos h1]; decide
  · have := line_len h4
    rw [line_inv x h1]
    simp [sInvoke]
    omega
  · by_cases hz : x.value = zBk
    · rw [line_ret0 x h1 hz]
      have := wordE_len x.err
      simp [sReturn]
      omega
    · rw [line_ret1 x h1 hz]
      have := hexP_len x.value
      simp [sReturn, sOk]
      omega
theorem textE_len : ∀ (h : List HEv), (∀ x ∈ h, WfE x) → (textE h).length ≤ 301 * h.length
  | [], _ => by simp [textE]
  | x :: h, hw => by
    have h1 := lineE_len (hw x (by simp))
    have h2 := textE_len h (fun y hy => hw y (by simp [hy]))
    simp only [textE, List.flatMap_cons, List.length_append, List.length_cons, List.length_nil] at h2 ⊢
    omega
def AllFit (h : List HEv) : Prop := ∀ i x, h[i]? = some x → fitB (h.take i) x = true
end Go.Proofs.YtmojbghcngdkpaaGreatDoor

namespace Go.Proofs.YtmojbghcngdkpaaGreatDoor
open Go.Eng Go.Plain
set_option maxHeartbeats 8000000
set_option maxRecDepth 20000
set_option linter.unusedVariables false
attribute [local irreducible] WC RegS RegD SeqQ BlkQ ScoQ RegK CutK Sat SatN FnIs LoopQ StepIs OpIs
theorem few_iff {h : List HEv} (hq : fewB h = true) : h.length ≤ 60 ∧ ∀ x ∈ h, x.op.data.length ≤ 70 := by
  simp only [fewB, Bool.and_eq_true, decide_eq_true_eq, List.all_eq_true] at hq
  exact hq
theorem law24_check (h : List HEv) (hok : ∀ x ∈ h, x.Ok) (c : Int) (hc0 : -9223372036854775808 ≤ c) (hc1 : c ≤ 9223372036854775807) : FnIs Tryz.prog 3 [.d (encH h), .int .i64 c] [] (.bool true) [] := by
  have hfw := few_is h
  refine fnIs_of tab_ok Tryz.func3 rfl rfl rfl ?_
  cases qa : fewB h with
  | false =>
    rw [qa] at hfw
    refine sR ?_;refine rC ?_;refine nQ ?_;refine sR ?_;refine rC ?_;refine rQ (call_r hfw rfl rfl (arg_e arg_nil) (.inl rfl) (fun _ => rfl)) ?_;refine rC ?_;refine nS ?_
    refine wV ?_;refine sR ?_;refine rQ (call_r lives24_is rfl rfl arg_nil (.inl rfl) (fun _ => rfl)) ?_;refine rC ?_;refine nS ?_;refine wc_ret ?_;refine seq_r ?_
    exact ⟨trivial, [], lf⟩
  | true =>
    rw [qa] at hfw
    obtain ⟨a1, a2⟩ := few_iff qa
    have hL : h.length ≤ 9223372036854775807 := by omega
    have hrc := rcheck24_is h hL
    rw [← chk_same] at hrc
    have hck := hcheck_is h hL
    have hop := hops_is h hL (by have := rdH_all_len h; omega)
    have hdd : ∀ x ∈ h, x.op.data.length ≤ 1048576 := fun x hx => by have := a2 x hx; omega
    have her := heras_is h (by omega) hdd
    have hpj := hproj_is h c (by omega) hdd
    have hw0 : (chkH h).2 = 0 → ∀ x ∈ h, WfE x := chk_wf hok
    have htx := htext_is h hL (fun _ => by omega) (fun h0 x hx => ⟨hok x hx, wf_data (hw0 h0 x hx)⟩) (fun h0 => by have := textE_len h (hw0 h0); omega)
    obtain ⟨at', k, hk⟩ : ∃ a b, chkH h = (a, b) := ⟨_, _, rfl⟩
    unfold opsH at hop
    unfold projE at hpj
    rw [hk] at hrc hck hop her hpj htx
    simp only at hrc hck hop her hpj htx
    have q1 : (!decide (at' = at')) = false := by rw [decide_eq_true rfl]; rfl
    have q2 : (!decide (k = k)) = false := by rw [decide_eq_true rfl]; rfl
    have q3 : decide (k = k) = true := decide_eq_true rfl
    by_cases h0 : k = 0
    · subst h0
      simp only [if_true] at hop her hpj htx
      have hee : (!decide ((0 : Int) = 0)) = false := rfl
      by_cases hcn : c < 0
      · have e1 : decide (c < 0) = true := decide_eq_true hcn
        rw [show (if c < 0 ∨ 8 ≤ c then (1 : Int) else 0) = 1 from if_pos (.inl hcn), if_neg (show ¬ (1 : Int) = 0 by decide)] at hpj
        refine sR ?_;refine rC ?_;refine nQ ?_;refine sR ?_;refine rC ?_;refine rQ (call_r hfw rfl rfl (arg_e arg_nil) (.inl rfl) (fun _ => rfl)) ?_;refine rC ?_;refine nS ?_
        refine wG ?_;refine kS ?_;refine sR ?_;refine rC ?_;refine rQ (call_r hrc rfl rfl (arg_e arg_nil) (.inl rfl) (fun _ => rfl)) ?_;iterate 5 refine rC ?_
        refine nR ?_;refine rC ?_;refine rQ (call_r hck rfl rfl (arg_e arg_nil) (.inl rfl) (fun _ => rfl)) ?_;iterate 5 refine rC ?_
        refine nR ?_;refine rC ?_;refine rQ (call_r hop rfl rfl (arg_e arg_nil) (.inl rfl) (fun _ => rfl)) ?_;iterate 5 refine rC ?_
        refine nR ?_;refine rC ?_;refine rQ (call_r her rfl rfl (arg_e arg_nil) (.inl rfl) (fun _ => rfl)) ?_;iterate 5 refine rC ?_
        refine nR ?_;iterate 2 refine rC ?_
        refine rQ (call_r hpj rfl rfl (arg_e (arg_e arg_nil)) (.inl rfl) (fun _ => rfl)) ?_;iterate 5 refine rC ?_
        refine nR ?_;refine rC ?_;refine rQ (call_r htx rfl rfl (arg_e arg_nil) (.inl rfl) (fun _ => rfl)) ?_;iterate 5 refine rC ?_
        refine nQ ?_;refine sR ?_;iterate 4 refine rC ?_
        refine rO ?_;refine rC ?_;refine rO ?_;refine rC ?_;refine rO ?_;refine rC ?_;refine rQ iF ?_;refine rC ?_;refine rP ?_;refine rC ?_;refine rP ?_;refine rC ?_;refine rP ?_
        refine rC ?_;refine rQ iG ?_;refine rC ?_;refine rP ?_;refine rC ?_;refine rP ?_;refine rC ?_;refine rP ?_;refine rC ?_;refine rQ iG ?_;refine rC ?_;refine rP ?_
        refine rC ?_;refine rP ?_;refine rC ?_;refine rP ?_;refine rC ?_;refine rQ iG ?_;refine rC ?_;refine rP ?_;refine rC ?_;refine rP ?_;refine rC ?_;refine rP ?_;refine rC ?_
        iterate 12 refine rT ?_
        refine rP ?_;iterate 2 refine rQ iG ?_
        refine nS ?_;refine wG ?_;refine kS ?_;refine qR ?_;iterate 3 refine rC ?_
        refine rP ?_;refine rC ?_;refine rP ?_;refine rC ?_;refine rP ?_;refine rC ?_;iterate 2 refine rS ?_
        refine rP ?_;refine rQ iT ?_;refine rQ iU ?_;refine nS ?_;refine wV ?_;refine sR ?_;iterate 3 refine rC ?_
        refine rP ?_;refine rC ?_;refine rP ?_;refine rQ (len_arx tab_ok rfl rfl) ?_;refine rP ?_;refine rC ?_;refine rQ iU ?_;refine rC ?_;refine rP ?_;refine rQ (call_r lives24_is rfl rfl arg_nil (.inl rfl) (fun _ => rfl)) ?_
        refine rQ iU ?_;refine rC ?_;refine nS ?_;refine wc_ret ?_;refine seq_r ?_
        exact ⟨trivial, [], lf⟩
      · have e1 : decide (c < 0) = false := decide_eq_false hcn
        by_cases hc8 : 8 ≤ c
        · have e2 : decide ((7 : Int) < c) = true := decide_eq_true (by omega)
          rw [show (if c < 0 ∨ 8 ≤ c then (1 : Int) else 0) = 1 from if_pos (.inr hc8), if_neg (show ¬ (1 : Int) = 0 by decide)] at hpj
          refine sR ?_;refine rC ?_;refine nQ ?_;refine sR ?_;refine rC ?_;refine rQ (call_r hfw rfl rfl (arg_e arg_nil) (.inl rfl) (fun _ => rfl)) ?_;refine rC ?_;refine nS ?_
          refine wG ?_;refine kS ?_;refine sR ?_;refine rC ?_;refine rQ (call_r hrc rfl rfl (arg_e arg_nil) (.inl rfl) (fun _ => rfl)) ?_;iterate 5 refine rC ?_
          refine nR ?_;refine rC ?_;refine rQ (call_r hck rfl rfl (arg_e arg_nil) (.inl rfl) (fun _ => rfl)) ?_;iterate 5 refine rC ?_
          refine nR ?_;refine rC ?_;refine rQ (call_r hop rfl rfl (arg_e arg_nil) (.inl rfl) (fun _ => rfl)) ?_;iterate 5 refine rC ?_
          refine nR ?_;refine rC ?_;refine rQ (call_r her rfl rfl (arg_e arg_nil) (.inl rfl) (fun _ => rfl)) ?_;iterate 5 refine rC ?_
          refine nR ?_;iterate 2 refine rC ?_
          refine rQ (call_r hpj rfl rfl (arg_e (arg_e arg_nil)) (.inl rfl) (fun _ => rfl)) ?_;iterate 5 refine rC ?_
          refine nR ?_;refine rC ?_;refine rQ (call_r htx rfl rfl (arg_e arg_nil) (.inl rfl) (fun _ => rfl)) ?_;iterate 5 refine rC ?_
          refine nQ ?_;refine sR ?_;iterate 4 refine rC ?_
          refine rO ?_;refine rC ?_;refine rO ?_;refine rC ?_;refine rO ?_;refine rC ?_;refine rQ iF ?_;refine rC ?_;refine rP ?_;refine rC ?_;refine rP ?_;refine rC ?_;refine rP ?_
          refine rC ?_;refine rQ iG ?_;refine rC ?_;refine rP ?_;refine rC ?_;refine rP ?_;refine rC ?_;refine rP ?_;refine rC ?_;refine rQ iG ?_;refine rC ?_;refine rP ?_
          refine rC ?_;refine rP ?_;refine rC ?_;refine rP ?_;refine rC ?_;refine rQ iG ?_;refine rC ?_;refine rP ?_;refine rC ?_;refine rP ?_;refine rC ?_;refine rP ?_;refine rC ?_
          iterate 12 refine rT ?_
          refine rP ?_;iterate 2 refine rQ iG ?_
          refine nS ?_;refine wG ?_;refine kS ?_;refine qR ?_;iterate 3 refine rC ?_
          refine rP ?_;refine rC ?_;refine rP ?_;refine rC ?_;refine rP ?_;refine rC ?_;refine rO ?_;refine rC ?_;refine rO ?_;refine rC ?_;refine rP ?_;refine rQ iF ?_;refine rQ iU ?_
          refine nS ?_;refine wT ?_;refine sR ?_;iterate 3 refine rC ?_
          refine rP ?_;refine rC ?_;refine rP ?_;refine rQ (len_arx tab_ok rfl rfl) ?_;refine rP ?_;refine rC ?_;refine rQ iU ?_;refine rC ?_;refine rP ?_;refine rQ (call_r lives24_is rfl rfl arg_nil (.inl rfl) (fun _ => rfl)) ?_
          refine rQ iU ?_;refine rC ?_;refine nS ?_;refine wc_ret ?_;refine seq_r ?_
          exact ⟨trivial, [], lf⟩
        · have e2 : decide ((7 : Int) < c) = false := decide_eq_false (by omega)
          rw [show (if c < 0 ∨ 8 ≤ c then (1 : Int) else 0) = 0 from if_neg (by omega), if_pos rfl] at hpj
          refine sR ?_;refine rC ?_;refine nQ ?_;refine sR ?_;refine rC ?_;refine rQ (call_r hfw rfl rfl (arg_e arg_nil) (.inl rfl) (fun _ => rfl)) ?_;refine rC ?_;refine nS ?_
          refine wG ?_;refine kS ?_;refine sR ?_;refine rC ?_;refine rQ (call_r hrc rfl rfl (arg_e arg_nil) (.inl rfl) (fun _ => rfl)) ?_;iterate 5 refine rC ?_
          refine nR ?_;refine rC ?_;refine rQ (call_r hck rfl rfl (arg_e arg_nil) (.inl rfl) (fun _ => rfl)) ?_;iterate 5 refine rC ?_
          refine nR ?_;refine rC ?_;refine rQ (call_r hop rfl rfl (arg_e arg_nil) (.inl rfl) (fun _ => rfl)) ?_;iterate 5 refine rC ?_
          refine nR ?_;refine rC ?_;refine rQ (call_r her rfl rfl (arg_e arg_nil) (.inl rfl) (fun _ => rfl)) ?_;iterate 5 refine rC ?_
          refine nR ?_;iterate 2 refine rC ?_
          refine rQ (call_r hpj rfl rfl (arg_e (arg_e arg_nil)) (.inl rfl) (fun _ => rfl)) ?_;iterate 5 refine rC ?_
          refine nR ?_;refine rC ?_;refine rQ (call_r htx rfl rfl (arg_e arg_nil) (.inl rfl) (fun _ => rfl)) ?_;iterate 5 refine rC ?_
          refine nQ ?_;refine sR ?_;iterate 4 refine rC ?_
          refine rO ?_;refine rC ?_;refine rO ?_;refine rC ?_;refine rO ?_;refine rC ?_;refine rQ iF ?_;refine rC ?_;refine rP ?_;refine rC ?_;refine rP ?_;refine rC ?_;refine rP ?_
          refine rC ?_;refine rQ iG ?_;refine rC ?_;refine rP ?_;refine rC ?_;refine rP ?_;refine rC ?_;refine rP ?_;refine rC ?_;refine rQ iG ?_;refine rC ?_;refine rP ?_
          refine rC ?_;refine rP ?_;refine rC ?_;refine rP ?_;refine rC ?_;refine rQ iG ?_;refine rC ?_;refine rP ?_;refine rC ?_;refine rP ?_;refine rC ?_;refine rP ?_;refine rC ?_
          iterate 12 refine rT ?_
          refine rP ?_;iterate 2 refine rQ iG ?_
          refine nS ?_;refine wG ?_;refine kS ?_;refine qR ?_;iterate 3 refine rC ?_
          refine rP ?_;refine rC ?_;refine rP ?_;refine rC ?_;refine rP ?_;refine rC ?_;refine rO ?_;refine rC ?_;refine rO ?_;refine rC ?_;refine rP ?_;refine rQ iF ?_;refine rQ iU ?_
          refine nS ?_;refine wF ?_;refine kS ?_;refine sR ?_;iterate 4 refine rC ?_
          refine rP ?_;refine rQ (call_r lives24_is rfl rfl arg_nil (.inl rfl) (fun _ => rfl)) ?_;refine rQ iU ?_;refine rC ?_;refine nS ?_;refine wc_ret ?_
          exact ⟨trivial, [], lf⟩
    · have e0 : (!decide (k = 0)) = true := by rw [decide_eq_false h0]; rfl
      have e00 : decide (k = 0) = false := decide_eq_false h0
      simp only [if_neg h0] at hop her hpj htx
      refine sR ?_;refine rC ?_;refine nQ ?_;refine sR ?_;refine rC ?_;refine rQ (call_r hfw rfl rfl (arg_e arg_nil) (.inl rfl) (fun _ => rfl)) ?_;refine rC ?_;refine nS ?_
      refine wG ?_;refine kS ?_;refine sR ?_;refine rC ?_;refine rQ (call_r hrc rfl rfl (arg_e arg_nil) (.inl rfl) (fun _ => rfl)) ?_;iterate 5 refine rC ?_
      refine nR ?_;refine rC ?_;refine rQ (call_r hck rfl rfl (arg_e arg_nil) (.inl rfl) (fun _ => rfl)) ?_;iterate 5 refine rC ?_
      refine nR ?_;refine rC ?_;refine rQ (call_r hop rfl rfl (arg_e arg_nil) (.inl rfl) (fun _ => rfl)) ?_;iterate 5 refine rC ?_
      refine nR ?_;refine rC ?_;refine rQ (call_r her rfl rfl (arg_e arg_nil) (.inl rfl) (fun _ => rfl)) ?_;iterate 5 refine rC ?_
      refine nR ?_;iterate 2 refine rC ?_
      refine rQ (call_r hpj rfl rfl (arg_e (arg_e arg_nil)) (.inl rfl) (fun _ => rfl)) ?_;iterate 5 refine rC ?_
      refine nR ?_;refine rC ?_;refine rQ (call_r htx rfl rfl (arg_e arg_nil) (.inl rfl) (fun _ => rfl)) ?_;iterate 5 refine rC ?_
      refine nQ ?_;refine sR ?_;iterate 4 refine rC ?_
      refine rO ?_;refine rC ?_;refine rO ?_;refine rC ?_;refine rO ?_;refine rC ?_;refine rQ iF ?_;refine rC ?_;refine rO ?_;refine rC ?_;refine rO ?_;refine rC ?_;refine rO ?_
      refine rC ?_;refine rQ iF ?_;refine rC ?_;refine rO ?_;refine rC ?_;refine rO ?_;refine rC ?_;refine rO ?_;refine rC ?_;refine rQ iF ?_;refine rC ?_;refine rO ?_
      refine rC ?_;refine rO ?_;refine rC ?_;refine rO ?_;refine rC ?_;refine rQ iF ?_;refine rC ?_;refine rO ?_;refine rC ?_;refine rO ?_;refine rC ?_;refine rO ?_;refine rC ?_
      refine rO ?_;refine rC ?_;refine rO ?_;refine rQ (len_arx tab_ok rfl rfl) ?_;refine rO ?_;refine rC ?_;refine rO ?_;refine rQ (len_arx tab_ok rfl rfl) ?_;refine rO ?_
      refine rQ (add_int (m := 0) tab_ok rfl rfl rfl) ?_;refine rO ?_;refine rC ?_;refine rO ?_;refine rQ (len_arx tab_ok rfl rfl) ?_;refine rO ?_;refine rQ (add_int (m := 0) tab_ok rfl rfl rfl) ?_
      refine rO ?_;refine rC ?_;refine rO ?_;refine rQ (len_s tab_ok rfl rfl) ?_;refine rO ?_;refine rQ (add_int (m := 0) tab_ok rfl rfl rfl) ?_;refine rO ?_;refine rC ?_
      refine rO ?_;refine rQ iT ?_;refine rQ iF ?_;refine nS ?_;refine wG ?_;refine kS ?_;refine qR ?_;iterate 3 refine rC ?_
      iterate 3 refine rS ?_
      iterate 2 refine rU ?_
      refine rS ?_;refine rQ iF ?_;refine nS ?_;refine wG ?_;refine kS ?_;refine sR ?_;iterate 4 refine rC ?_
      refine rO ?_;refine rQ (call_r lives24_is rfl rfl arg_nil (.inl rfl) (fun _ => rfl)) ?_;refine rQ iT ?_;refine rC ?_;refine nS ?_;refine wc_ret ?_
      exact ⟨trivial, [], lf⟩
end Go.Proofs.YtmojbghcngdkpaaGreatDoor

namespace Go.Proofs.YtmojbghcngdkpaaGreatDoor
open Go.Eng Go.Plain
theorem toB_len (l : List Int) : (toB l).length = l.length := by simp [toB]
theorem opens_block : Opens Tryz.prog 52 32 (fun l : List UInt8 => encBk l) fun l => l.length = 32 :=
  Opens.map (opens_array (P := Tryz.prog) Tryz.underlying52 (by kernel_rfl) (by kernel_rfl) (opens_int (P := Tryz.prog) Tryz.underlying5))
    toB (fun l h => by show D.vec 32 1 encU8 (byI (toB l)) = _; rw [toB_byI h.2]; rfl) (fun l h => by rw [toB_len]; exact h.1)
theorem opens_event : Opens Tryz.prog 59 38 encEv HEv.Ok :=
  Opens.map (opens_struct (P := Tryz.prog) Tryz.underlying59 (by kernel_rfl) (fun _ => rfl) (opensF_cons rfl (by kernel_rfl) (opens_int (P := Tryz.prog) Tryz.underlying57) (opensF_cons rfl (by kernel_rfl) (opens_int (P := Tryz.prog) Tryz.underlying3) (opensF_cons rfl (by kernel_rfl) opens_pop (opensF_cons rfl (by kernel_rfl) opens_block (opensF_cons rfl (by kernel_rfl) (opens_int (P := Tryz.prog) Tryz.underlying27) opensF_nil))))))
    (fun q => ⟨q.1, q.2.1, q.2.2.1, q.2.2.2.1, q.2.2.2.2.1⟩) (fun _ _ => rfl) (fun _ h => ⟨pu8_of h.1, pi64_of h.2.1, h.2.2.1, h.2.2.2.1, pi64_of h.2.2.2.2.1⟩)
theorem opens_events : Opens Tryz.prog 22 1 encH fun l => ∀ x ∈ l, x.Ok :=
  Opens.map (opens_slice (P := Tryz.prog) Tryz.underlying22 (by kernel_rfl) opens_event) id (fun _ _ => rfl) (fun _ h => h.2)
end Go.Proofs.YtmojbghcngdkpaaGreatDoor
