/- Texts of the proof: P7, P8, P9, P10, P11, Eng75, P12, Eng76, P13, Eng77, P14, PX, P15, P16, P17, P18, P21, P22, ZP, ZQ, Eng78, Eng80, Eng81, Eng82, Eng86, Eng91, Eng83, Eng84, ZDat, Z1, Z36, Z2, ZR, ZS. -/
import Derived.Test.YthiijfbcfoifnaaGreatDoorG03
import Derived.Test.YthiijfbcfoifnaaGreatDoorG02
import Derived.Sort.Row
import Derived.Sort.Grow

set_option linter.unusedVariables false
set_option linter.unusedSimpArgs false
set_option linter.unusedSectionVars false

namespace Go.Proofs.YthiijfbcfoifnaaGreatDoor
open Go.Eng Go.Plain
set_option maxHeartbeats 4000000
set_option maxRecDepth 20000
attribute [local irreducible] WC RegS RegD SeqQ BlkQ ScoQ RegK CutK Sat SatN FnIs LoopQ StepIs OpIs
theorem len0_iff (l : List UInt8) (b : Bool) (h : decide (l = []) = b) : decide (((byI l).length : Int) = 0) = b := by
 rw [← h]
 cases l with
 | nil => rfl
 | cons a l => simp [byI]; omega
theorem line_read (o : POp) (hok : o.Ok) (hL : o.data.length ≤ 524288) (hk : o.kind = 1) (hd0 : o.data = []) : FnIs Tryz.prog 53 [.d (encPOp o)] [] (.d (strD (lineP o))) [] := by
 obtain ⟨⟨kk0, kk1⟩, h0, h1⟩ := hok
 have k0 : -9223372036854775808 ≤ o.kind := by omega
 have k1 : o.kind ≤ 9223372036854775807 := by omega
 have hwk : IntKind.i64.wrap o.kind = o.kind := wrap_i64 (by omega) (by omega)
 have l1 := itoa_len h0 h1
 have l2 := itoa_len k0 k1
 have l3 := hexP_len o.data
 have hk1 : decide (o.kind = 1) = true := dT (by omega)
 have hd := len0_iff o.data true (dT hd0)
 rw [show lineP o = sRead ++ [32] ++ Lib.itoa o.index by rw [lineP, if_pos ⟨hk, hd0⟩]; simp]
 refine fnIs_of tab_ok Tryz.func53 rfl rfl rfl ?_;refine sR ?_;refine rN ?_;refine rC ?_;refine nR ?_;refine rC ?_;refine rQ iB ?_;refine rQ (call_r (itoa_is h0 h1) rfl rfl (arg_e arg_nil) (.inl rfl) (fun _ => rfl)) ?_
 refine rC ?_;refine nQ ?_;refine wc_block ?_;refine sR ?_;refine rC ?_;refine rQ iB ?_;iterate 2 refine rC ?_
 refine rO ?_;refine rC ?_;refine rO ?_;refine rQ iB ?_;refine rO ?_;refine rQ iE ?_;refine rO ?_;refine rC ?_;refine rQ iT ?_;refine rC ?_;refine nS ?_;refine wT ?_
 refine sR ?_;refine rC ?_
 refine rQ (add_str (a := sRead ++ [32]) (b := Lib.itoa o.index) rfl rfl (by simp [sRead]; omega) rfl) ?_
 refine rC ?_;refine nS ?_;refine wc_ret ?_;refine blk_r ?_;refine seq_r ?_
 exact ⟨trivial, [], lf⟩
theorem line_write (o : POp) (hok : o.Ok) (hL : o.data.length ≤ 524288) (hk : o.kind = 2) : FnIs Tryz.prog 53 [.d (encPOp o)] [] (.d (strD (lineP o))) [] := by
 obtain ⟨⟨kk0, kk1⟩, h0, h1⟩ := hok
 have k0 : -9223372036854775808 ≤ o.kind := by omega
 have k1 : o.kind ≤ 9223372036854775807 := by omega
 have hwk : IntKind.i64.wrap o.kind = o.kind := wrap_i64 (by omega) (by omega)
 have l1 := itoa_len h0 h1
 have l2 := itoa_len k0 k1
 have l3 := hexP_len o.data
 have hk1 : decide (o.kind = 1) = false := dF (by omega)
 have hk2 : decide (o.kind = 2) = true := dT (by omega)
 rw [show lineP o = sWrite ++ [32] ++ Lib.itoa o.index ++ [32] ++ hexP o.data by rw [lineP, if_neg (fun h => by have := h.1; omega), if_pos hk]; simp]
 refine fnIs_of tab_ok Tryz.func53 rfl rfl rfl ?_;refine sR ?_;refine rN ?_;refine rC ?_;refine nR ?_;refine rC ?_;refine rQ iB ?_;refine rQ (call_r (itoa_is h0 h1) rfl rfl (arg_e arg_nil) (.inl rfl) (fun _ => rfl)) ?_
 refine rC ?_;refine nQ ?_;refine wc_block ?_;refine sR ?_;refine rC ?_;refine rQ iB ?_;iterate 2 refine rC ?_
 iterate 4 refine rS ?_
 refine rQ iF ?_;refine rC ?_;refine nS ?_;refine wG ?_;refine sR ?_;refine rC ?_;refine rQ iB ?_;iterate 2 refine rC ?_
 refine nS ?_;refine wT ?_;refine sR ?_;refine rC ?_
 refine rQ (add_str (a := sWrite ++ [32]) (b := Lib.itoa o.index) rfl rfl (by simp [sWrite]; omega) rfl) ?_
 refine rQ (add_str (a := sWrite ++ [32] ++ Lib.itoa o.index) (b := [32]) rfl rfl (by simp [sWrite]; omega) rfl) ?_
 refine rC ?_;refine rQ iB ?_;refine rQ (call_r (hex_is o.data hL) rfl rfl (arg_e arg_nil) (.inl rfl) (fun _ => rfl)) ?_
 refine rQ (add_str (a := sWrite ++ [32] ++ Lib.itoa o.index ++ [32]) (b := hexP o.data) rfl rfl (by simp [sWrite]; omega) rfl) ?_
 refine rC ?_;refine nS ?_;refine wc_ret ?_;refine blk_r ?_;refine seq_r ?_
 exact ⟨trivial, [], lf⟩
theorem line_flush (o : POp) (hok : o.Ok) (hL : o.data.length ≤ 524288) (hk : o.kind = 3) (hi0 : o.index = 0) (hd0 : o.data = []) : FnIs Tryz.prog 53 [.d (encPOp o)] [] (.d (strD (lineP o))) [] := by
 obtain ⟨⟨kk0, kk1⟩, h0, h1⟩ := hok
 have k0 : -9223372036854775808 ≤ o.kind := by omega
 have k1 : o.kind ≤ 9223372036854775807 := by omega
 have hwk : IntKind.i64.wrap o.kind = o.kind := wrap_i64 (by omega) (by omega)
 have l1 := itoa_len h0 h1
 have l2 := itoa_len k0 k1
 have l3 := hexP_len o.data
 have hk1 : decide (o.kind = 1) = false := dF (by omega)
 have hk2 : decide (o.kind = 2) = false := dF (by omega)
 have hk3 : decide (o.kind = 3) = true := dT (by omega)
 have hd := len0_iff o.data true (dT hd0)
 have hi : decide (o.index = 0) = true := dT hi0
 rw [show lineP o = sFlush by rw [lineP, if_neg (fun h => by have := h.1; omega), if_neg (by omega), if_pos ⟨hk, hi0, hd0⟩]]
 refine fnIs_of tab_ok Tryz.func53 rfl rfl rfl ?_;refine sR ?_;refine rN ?_;refine rC ?_;refine nR ?_;refine rC ?_;refine rQ iB ?_;refine rQ (call_r (itoa_is h0 h1) rfl rfl (arg_e arg_nil) (.inl rfl) (fun _ => rfl)) ?_
 refine rC ?_;refine nQ ?_;refine wc_block ?_;refine sR ?_;refine rC ?_;refine rQ iB ?_;iterate 2 refine rC ?_
 iterate 4 refine rS ?_
 refine rQ iF ?_;refine rC ?_;refine nS ?_;refine wG ?_;refine sR ?_;refine rC ?_;refine rQ iB ?_;iterate 2 refine rC ?_
 refine nS ?_;refine wF ?_;refine sR ?_;refine rC ?_;refine rQ iB ?_;iterate 2 refine rC ?_
 refine rO ?_;refine rC ?_;refine rO ?_;refine rQ iB ?_;refine rO ?_;refine rC ?_;refine rQ iT ?_;refine rC ?_;refine rO ?_;refine rC ?_;refine rO ?_;refine rQ iB ?_
 refine rO ?_;refine rQ iE ?_;refine rO ?_;refine rC ?_;refine rQ iT ?_;refine rC ?_;refine nS ?_;refine wT ?_;refine sR ?_;refine rC ?_;refine nS ?_;refine wc_ret ?_
 refine blk_r ?_;refine seq_r ?_
 exact ⟨trivial, [], lf⟩
theorem line_op1 (o : POp) (hok : o.Ok) (hL : o.data.length ≤ 524288) (hk : o.kind = 1) (hd0 : ¬ o.data = []) : FnIs Tryz.prog 53 [.d (encPOp o)] [] (.d (strD (lineP o))) [] := by
 obtain ⟨⟨kk0, kk1⟩, h0, h1⟩ := hok
 have k0 : -9223372036854775808 ≤ o.kind := by omega
 have k1 : o.kind ≤ 9223372036854775807 := by omega
 have hwk : IntKind.i64.wrap o.kind = o.kind := wrap_i64 (by omega) (by omega)
 have l1 := itoa_len h0 h1
 have l2 := itoa_len k0 k1
 have l3 := hexP_len o.data
 have hk1 : decide (o.kind = 1) = true := dT (by omega)
 have hk2 : decide (o.kind = 2) = false := dF (by omega)
 have hk3 : decide (o.kind = 3) = false := dF (by omega)
 have hd := len0_iff o.data false (dF hd0)
 rw [show lineP o = sOp ++ [32] ++ Lib.itoa o.kind ++ [32] ++ Lib.itoa o.index ++ [32] ++ hexP o.data by rw [lineP, if_neg (fun h => hd0 h.2), if_neg (by omega), if_neg (fun h => by have := h.1; omega)]; simp]
 refine fnIs_of tab_ok Tryz.func53 rfl rfl rfl ?_;refine sR ?_;refine rN ?_;refine rC ?_;refine nR ?_;refine rC ?_;refine rQ iB ?_;refine rQ (call_r (itoa_is h0 h1) rfl rfl (arg_e arg_nil) (.inl rfl) (fun _ => rfl)) ?_
 refine rC ?_;refine nQ ?_;refine wc_block ?_;refine sR ?_;refine rC ?_;refine rQ iB ?_;iterate 2 refine rC ?_
 refine rO ?_;refine rC ?_;refine rO ?_;refine rQ iB ?_;refine rO ?_;refine rQ iE ?_;refine rO ?_;refine rC ?_;refine rQ iT ?_;refine rC ?_;refine nS ?_;refine wF ?_
 refine sR ?_;refine rC ?_;refine rQ iB ?_;iterate 2 refine rC ?_
 refine nS ?_;refine wF ?_;refine sR ?_;refine rC ?_;refine rQ iB ?_;iterate 2 refine rC ?_
 iterate 3 refine rS ?_
 refine rQ iF ?_;refine rC ?_;iterate 4 refine rT ?_
 refine rQ iG ?_;refine rC ?_;refine nS ?_;refine wG ?_;refine wc_skip ?_;refine blk_n ?_;refine seq_n ?_;refine wc_seq ?_;refine wc_draw (by kernel_rfl) ?_;refine dC [1] [] ?_
 refine dQ [45] [64] iB ?_;refine dQ [46] [] (conv_int (m := o.kind) tab_ok rfl rfl rfl hwk) ?_;refine dQ [47] [] (call_r (itoa_is k0 k1) rfl rfl (arg_e arg_nil) (.inl rfl) (fun _ => rfl)) ?_
 refine dQ [48] [] (add_str (a := sOp ++ [32]) (b := Lib.itoa o.kind) rfl rfl (by simp [sOp]; omega) rfl) ?_
 refine dQ [49] [] (add_str (a := sOp ++ [32] ++ Lib.itoa o.kind) (b := [32]) rfl rfl (by simp [sOp]; omega) rfl) ?_
 refine dC [3] [] ?_
 refine dQ [50, 51] [] (add_str (a := sOp ++ [32] ++ Lib.itoa o.kind ++ [32]) (b := Lib.itoa o.index) rfl rfl (by simp [sOp]; omega) rfl) ?_
 refine dQ [52] [] (add_str (a := sOp ++ [32] ++ Lib.itoa o.kind ++ [32] ++ Lib.itoa o.index) (b := [32]) rfl rfl (by simp [sOp]; omega) rfl) ?_
 refine dC [1] [] ?_;refine dQ [54] [64] iB ?_;refine dQ [55] [] (call_r (hex_is o.data hL) rfl rfl (arg_e arg_nil) (.inl rfl) (fun _ => rfl)) ?_
 refine dQ [53, 56] [] (add_str (a := sOp ++ [32] ++ Lib.itoa o.kind ++ [32] ++ Lib.itoa o.index ++ [32]) (b := hexP o.data) rfl rfl (by simp [sOp]; omega) rfl) ?_
 refine dC [57] [] ?_;refine dreg_end (by kernel_rfl) ?_;refine seq_n ?_;refine wc_ret ?_
 exact ⟨trivial, [], lf⟩
theorem line_op2 (o : POp) (hok : o.Ok) (hL : o.data.length ≤ 524288) (hk1 : ¬ o.kind = 1) (hk2 : ¬ o.kind = 2) (hk3 : ¬ o.kind = 3) : FnIs Tryz.prog 53 [.d (encPOp o)] [] (.d (strD (lineP o))) [] := by
 obtain ⟨⟨kk0, kk1⟩, h0, h1⟩ := hok
 have k0 : -9223372036854775808 ≤ o.kind := by omega
 have k1 : o.kind ≤ 9223372036854775807 := by omega
 have hwk : IntKind.i64.wrap o.kind = o.kind := wrap_i64 (by omega) (by omega)
 have l1 := itoa_len h0 h1
 have l2 := itoa_len k0 k1
 have l3 := hexP_len o.data
 have hk1 : decide (o.kind = 1) = false := dF (by omega)
 have hk2 : decide (o.kind = 2) = false := dF (by omega)
 have hk3 : decide (o.kind = 3) = false := dF (by omega)
 rw [show lineP o = sOp ++ [32] ++ Lib.itoa o.kind ++ [32] ++ Lib.itoa o.index ++ [32] ++ hexP o.data by rw [lineP, if_neg (fun h => by have := h.1; omega), if_neg (by omega), if_neg (fun h => by have := h.1; omega)]; simp]
 refine fnIs_of tab_ok Tryz.func53 rfl rfl rfl ?_;refine sR ?_;refine rN ?_;refine rC ?_;refine nR ?_;refine rC ?_;refine rQ iB ?_;refine rQ (call_r (itoa_is h0 h1) rfl rfl (arg_e arg_nil) (.inl rfl) (fun _ => rfl)) ?_
 refine rC ?_;refine nQ ?_;refine wc_block ?_;refine sR ?_;refine rC ?_;refine rQ iB ?_;iterate 2 refine rC ?_
 iterate 4 refine rS ?_
 refine rQ iF ?_;refine rC ?_;refine nS ?_;refine wG ?_;refine sR ?_;refine rC ?_;refine rQ iB ?_;iterate 2 refine rC ?_
 refine nS ?_;refine wF ?_;refine sR ?_;refine rC ?_;refine rQ iB ?_;iterate 2 refine rC ?_
 iterate 3 refine rS ?_
 refine rQ iF ?_;refine rC ?_;iterate 4 refine rT ?_
 refine rQ iG ?_;refine rC ?_;refine nS ?_;refine wG ?_;refine wc_skip ?_;refine blk_n ?_;refine seq_n ?_;refine wc_seq ?_;refine wc_draw (by kernel_rfl) ?_;refine dC [1] [] ?_
 refine dQ [45] [64] iB ?_;refine dQ [46] [] (conv_int (m := o.kind) tab_ok rfl rfl rfl hwk) ?_;refine dQ [47] [] (call_r (itoa_is k0 k1) rfl rfl (arg_e arg_nil) (.inl rfl) (fun _ => rfl)) ?_
 refine dQ [48] [] (add_str (a := sOp ++ [32]) (b := Lib.itoa o.kind) rfl rfl (by simp [sOp]; omega) rfl) ?_
 refine dQ [49] [] (add_str (a := sOp ++ [32] ++ Lib.itoa o.kind) (b := [32]) rfl rfl (by simp [sOp]; omega) rfl) ?_
 refine dC [3] [] ?_
 refine dQ [50, 51] [] (add_str (a := sOp ++ [32] ++ Lib.itoa o.kind ++ [32]) (b := Lib.itoa o.index) rfl rfl (by simp [sOp]; omega) rfl) ?_
 refine dQ [52] [] (add_str (a := sOp ++ [32] ++ Lib.itoa o.kind ++ [32] ++ Lib.itoa o.index) (b := [32]) rfl rfl (by simp [sOp]; omega) rfl) ?_
 refine dC [1] [] ?_;refine dQ [54] [64] iB ?_;refine dQ [55] [] (call_r (hex_is o.data hL) rfl rfl (arg_e arg_nil) (.inl rfl) (fun _ => rfl)) ?_
 refine dQ [53, 56] [] (add_str (a := sOp ++ [32] ++ Lib.itoa o.kind ++ [32] ++ Lib.itoa o.index ++ [32]) (b := hexP o.data) rfl rfl (by simp [sOp]; omega) rfl) ?_
 refine dC [57] [] ?_;refine dreg_end (by kernel_rfl) ?_;refine seq_n ?_;refine wc_ret ?_
 exact ⟨trivial, [], lf⟩
theorem line_op3 (o : POp) (hok : o.Ok) (hL : o.data.length ≤ 524288) (hk : o.kind = 3) (hi0 : ¬ o.index = 0) : FnIs Tryz.prog 53 [.d (encPOp o)] [] (.d (strD (lineP o))) [] := by
 obtain ⟨⟨kk0, kk1⟩, h0, h1⟩ := hok
 have k0 : -9223372036854775808 ≤ o.kind := by omega
 have k1 : o.kind ≤ 9223372036854775807 := by omega
 have hwk : IntKind.i64.wrap o.kind = o.kind := wrap_i64 (by omega) (by omega)
 have l1 := itoa_len h0 h1
 have l2 := itoa_len k0 k1
 have l3 := hexP_len o.data
 have hk1 : decide (o.kind = 1) = false := dF (by omega)
 have hk2 : decide (o.kind = 2) = false := dF (by omega)
 have hk3 : decide (o.kind = 3) = true := dT (by omega)
 have hi : decide (o.index = 0) = false := dF hi0
 rw [show lineP o = sOp ++ [32] ++ Lib.itoa o.kind ++ [32] ++ Lib.itoa o.index ++ [32] ++ hexP o.data by rw [lineP, if_neg (fun h => by have := h.1; omega), if_neg (by omega), if_neg (fun h => hi0 h.2.1)]; simp]
 refine fnIs_of tab_ok Tryz.func53 rfl rfl rfl ?_;refine sR ?_;refine rN ?_;refine rC ?_;refine nR ?_;refine rC ?_;refine rQ iB ?_;refine rQ (call_r (itoa_is h0 h1) rfl rfl (arg_e arg_nil) (.inl rfl) (fun _ => rfl)) ?_
 refine rC ?_;refine nQ ?_;refine wc_block ?_;refine sR ?_;refine rC ?_;refine rQ iB ?_;iterate 2 refine rC ?_
 iterate 4 refine rS ?_
 refine rQ iF ?_;refine rC ?_;refine nS ?_;refine wG ?_;refine sR ?_;refine rC ?_;refine rQ iB ?_;iterate 2 refine rC ?_
 refine nS ?_;refine wF ?_;refine sR ?_;refine rC ?_;refine rQ iB ?_;iterate 2 refine rC ?_
 refine rO ?_;refine rC ?_;refine rO ?_;refine rQ iB ?_;refine rO ?_;refine rC ?_;refine rQ iT ?_;refine rC ?_;iterate 4 refine rS ?_
 refine rQ iF ?_;refine rC ?_;refine nS ?_;refine wG ?_;refine wc_skip ?_;refine blk_n ?_;refine seq_n ?_;refine wc_seq ?_;refine wc_draw (by kernel_rfl) ?_;refine dC [1] [] ?_
 refine dQ [45] [64] iB ?_;refine dQ [46] [] (conv_int (m := o.kind) tab_ok rfl rfl rfl hwk) ?_;refine dQ [47] [] (call_r (itoa_is k0 k1) rfl rfl (arg_e arg_nil) (.inl rfl) (fun _ => rfl)) ?_
 refine dQ [48] [] (add_str (a := sOp ++ [32]) (b := Lib.itoa o.kind) rfl rfl (by simp [sOp]; omega) rfl) ?_
 refine dQ [49] [] (add_str (a := sOp ++ [32] ++ Lib.itoa o.kind) (b := [32]) rfl rfl (by simp [sOp]; omega) rfl) ?_
 refine dC [3] [] ?_
 refine dQ [50, 51] [] (add_str (a := sOp ++ [32] ++ Lib.itoa o.kind ++ [32]) (b := Lib.itoa o.index) rfl rfl (by simp [sOp]; omega) rfl) ?_
 refine dQ [52] [] (add_str (a := sOp ++ [32] ++ Lib.itoa o.kind ++ [32] ++ Lib.itoa o.index) (b := [32]) rfl rfl (by simp [sOp]; omega) rfl) ?_
 refine dC [1] [] ?_;refine dQ [54] [64] iB ?_;refine dQ [55] [] (call_r (hex_is o.data hL) rfl rfl (arg_e arg_nil) (.inl rfl) (fun _ => rfl)) ?_
 refine dQ [53, 56] [] (add_str (a := sOp ++ [32] ++ Lib.itoa o.kind ++ [32] ++ Lib.itoa o.index ++ [32]) (b := hexP o.data) rfl rfl (by simp [sOp]; omega) rfl) ?_
 refine dC [57] [] ?_;refine dreg_end (by kernel_rfl) ?_;refine seq_n ?_;refine wc_ret ?_
 exact ⟨trivial, [], lf⟩
theorem line_op4 (o : POp) (hok : o.Ok) (hL : o.data.length ≤ 524288) (hk : o.kind = 3) (hi0 : o.index = 0) (hd0 : ¬ o.data = []) : FnIs Tryz.prog 53 [.d (encPOp o)] [] (.d (strD (lineP o))) [] := by
 obtain ⟨⟨kk0, kk1⟩, h0, h1⟩ := hok
 have k0 : -9223372036854775808 ≤ o.kind := by omega
 have k1 : o.kind ≤ 9223372036854775807 := by omega
 have hwk : IntKind.i64.wrap o.kind = o.kind := wrap_i64 (by omega) (by omega)
 have l1 := itoa_len h0 h1
 have l2 := itoa_len k0 k1
 have l3 := hexP_len o.data
 have hk1 : decide (o.kind = 1) = false := dF (by omega)
 have hk2 : decide (o.kind = 2) = false := dF (by omega)
 have hk3 : decide (o.kind = 3) = true := dT (by omega)
 have hi : decide (o.index = 0) = true := dT hi0
 have hd := len0_iff o.data false (dF hd0)
 rw [show lineP o = sOp ++ [32] ++ Lib.itoa o.kind ++ [32] ++ Lib.itoa o.index ++ [32] ++ hexP o.data by rw [lineP, if_neg (fun h => by have := h.1; omega), if_neg (by omega), if_neg (fun h => hd0 h.2.2)]; simp]
 refine fnIs_of tab_ok Tryz.func53 rfl rfl rfl ?_;refine sR ?_;refine rN ?_;refine rC ?_;refine nR ?_;refine rC ?_;refine rQ iB ?_;refine rQ (call_r (itoa_is h0 h1) rfl rfl (arg_e arg_nil) (.inl rfl) (fun _ => rfl)) ?_
 refine rC ?_;refine nQ ?_;refine wc_block ?_;refine sR ?_;refine rC ?_;refine rQ iB ?_;iterate 2 refine rC ?_
 iterate 4 refine rS ?_
 refine rQ iF ?_;refine rC ?_;refine nS ?_;refine wG ?_;refine sR ?_;refine rC ?_;refine rQ iB ?_;iterate 2 refine rC ?_
 refine nS ?_;refine wF ?_;refine sR ?_;refine rC ?_;refine rQ iB ?_;iterate 2 refine rC ?_
 refine rO ?_;refine rC ?_;refine rO ?_;refine rQ iB ?_;refine rO ?_;refine rC ?_;refine rQ iT ?_;refine rC ?_;refine rO ?_;refine rC ?_;refine rO ?_;refine rQ iB ?_
 refine rO ?_;refine rQ iE ?_;refine rO ?_;refine rC ?_;refine rQ iT ?_;refine rC ?_;refine nS ?_;refine wF ?_;refine wc_skip ?_;refine blk_n ?_;refine seq_n ?_;refine wc_seq ?_
 refine wc_draw (by kernel_rfl) ?_;refine dC [1] [] ?_;refine dQ [45] [64] iB ?_;refine dQ [46] [] (conv_int (m := o.kind) tab_ok rfl rfl rfl hwk) ?_;refine dQ [47] [] (call_r (itoa_is k0 k1) rfl rfl (arg_e arg_nil) (.inl rfl) (fun _ => rfl)) ?_
 refine dQ [48] [] (add_str (a := sOp ++ [32]) (b := Lib.itoa o.kind) rfl rfl (by simp [sOp]; omega) rfl) ?_
 refine dQ [49] [] (add_str (a := sOp ++ [32] ++ Lib.itoa o.kind) (b := [32]) rfl rfl (by simp [sOp]; omega) rfl) ?_
 refine dC [3] [] ?_
 refine dQ [50, 51] [] (add_str (a := sOp ++ [32] ++ Lib.itoa o.kind ++ [32]) (b := Lib.itoa o.index) rfl rfl (by simp [sOp]; omega) rfl) ?_
 refine dQ [52] [] (add_str (a := sOp ++ [32] ++ Lib.itoa o.kind ++ [32] ++ Lib.itoa o.index) (b := [32]) rfl rfl (by simp [sOp]; omega) rfl) ?_
 refine dC [1] [] ?_;refine dQ [54] [64] iB ?_;refine dQ [55] [] (call_r (hex_is o.data hL) rfl rfl (arg_e arg_nil) (.inl rfl) (fun _ => rfl)) ?_
 refine dQ [53, 56] [] (add_str (a := sOp ++ [32] ++ Lib.itoa o.kind ++ [32] ++ Lib.itoa o.index ++ [32]) (b := hexP o.data) rfl rfl (by simp [sOp]; omega) rfl) ?_
 refine dC [57] [] ?_;refine dreg_end (by kernel_rfl) ?_;refine seq_n ?_;refine wc_ret ?_
 exact ⟨trivial, [], lf⟩
theorem line_is (o : POp) (hok : o.Ok) (hL : o.data.length ≤ 524288) : FnIs Tryz.prog 53 [.d (encPOp o)] [] (.d (strD (lineP o))) [] := by
 by_cases k1 : o.kind = 1
 ·by_cases hd : o.data = []
  ·exact line_read o hok hL k1 hd
  ·exact line_op1 o hok hL k1 hd
 by_cases k2 : o.kind = 2
 ·exact line_write o hok hL k2
 by_cases k3 : o.kind = 3
 ·by_cases hi : o.index = 0
  ·by_cases hd : o.data = []
   ·exact line_flush o hok hL k3 hi hd
   ·exact line_op4 o hok hL k3 hi hd
  ·exact line_op3 o hok hL k3 hi
 ·exact line_op2 o hok hL k1 k2 k3
def Bd (l : List (List POp)) : Prop := l.length ≤ 1000000000 ∧ ∀ p ∈ l, p.length ≤ 1000000000
theorem bd_chk {l : List (List POp)} (h : chkP l = 0) : Bd l := by
 obtain ⟨h1, h2⟩ := chkP_ok.1 h
 refine ⟨by omega, fun p hp => ?_⟩
 have := h2 p hp
 simp only [badP, Bool.or_eq_false_iff, decide_eq_false_iff_not] at this
 omega
def partT (l : List (List POp)) (i : Nat) (p : List POp) (j : Nat) : List UInt8 := textP (l.take i) ++ (sClient ++ 10 :: opsT (p.take j))
theorem partT_zero (l : List (List POp)) (i : Nat) (p : List POp) : partT l i p 0 = textP (l.take i) ++ (sClient ++ [10]) := by simp [partT, opsT]
theorem partT_go {l : List (List POp)} {i j : Nat} {p : List POp} {o : POp} (ho : p[j]? = some o) : partT l i p j ++ (lineP o ++ [10]) = partT l i p (j + 1) := by
 rw [partT, partT, List.take_add_one, ho, Option.toList_some, opsT_snoc]
 simp
theorem partT_end {l : List (List POp)} {i : Nat} {p : List POp} (hp : l[i]? = some p) : partT l i p p.length = textP (l.take (i + 1)) := by
 rw [partT, List.take_length, List.take_add_one, hp, Option.toList_some, textP_snoc]
theorem textP_app (a b : List (List POp)) : textP (a ++ b) = textP a ++ textP b := by simp [textP]
theorem textP_le (l : List (List POp)) (i : Nat) : (textP (l.take i)).length ≤ (textP l).length := by
 have := congrArg List.length (textP_app (l.take i) (l.drop i))
 rw [List.take_append_drop, List.length_append] at this
 omega
theorem opsT_app (a b : List POp) : opsT (a ++ b) = opsT a ++ opsT b := by simp [opsT]
theorem opsT_le (l : List POp) (i : Nat) : (opsT (l.take i)).length ≤ (opsT l).length := by
 have := congrArg List.length (opsT_app (l.take i) (l.drop i))
 rw [List.take_append_drop, List.length_append] at this
 omega
theorem partT_le {l : List (List POp)} {i j : Nat} {p : List POp} (hp : l[i]? = some p) : (partT l i p j).length ≤ (textP l).length := by
 have h1 := textP_le l (i + 1)
 rw [← partT_end hp] at h1
 have h2 := opsT_le p j
 simp only [partT, List.length_append, List.length_cons, List.take_length] at h1 ⊢
 omega
theorem text_max {l : List (List POp)} (hok : OkL l) (hc : chkP l = 0) : (textP l).length ≤ 1048576 ∧ ∀ p ∈ l, ∀ o ∈ p, o.data.length ≤ 64 := by
 obtain ⟨h1, h2⟩ := chkP_ok.1 hc
 have hb : ∀ p ∈ l, p.length ≤ 64 ∧ ∀ o ∈ p, o.Ok ∧ o.data.length ≤ 64 := fun p hp => by
  have := h2 p hp
  simp only [badP, Bool.or_eq_false_iff, decide_eq_false_iff_not, List.any_eq_false, decide_eq_true_eq] at this
  exact ⟨by omega, fun o ho => ⟨hok p hp o ho, by have := this.2 o ho; omega⟩⟩
 have := text_len (D := 64) (N := 64) l hb
 have h3 : (7 + (51 + 2 * 64) * 64) * l.length ≤ (7 + (51 + 2 * 64) * 64) * 8 := Nat.mul_le_mul_left _ h1
 exact ⟨by omega, fun p hp o ho => ((hb p hp).2 o ho).2⟩
theorem text_bad (l : List (List POp)) (hB : Bd l) (h0 : chkP l ≠ 0) : FnIs Tryz.prog 22 [.d (encPL l)] [] (.tup (.acons (.d (strD [])) (.acons (.d (i6 (chkP l))) .anil))) [] := by
 have hC := check_is l hB.1 hB.2
 have hn : (!decide (chkP l = 0)) = true := by rw [dF h0]; rfl
 refine fnIs_of tab_ok Tryz.func22 rfl rfl rfl ?_;refine sR ?_;iterate 2 refine rC ?_
 refine nQ ?_;refine sR ?_;refine rC ?_;refine rQ (call_r hC rfl rfl (arg_e arg_nil) (.inl rfl) (fun _ => rfl)) ?_;refine rC ?_;refine nR ?_;iterate 2 refine rC ?_
 refine nS ?_;refine wT ?_;refine sR ?_;iterate 3 refine rC ?_
 refine nS ?_;refine wc_ret ?_;refine seq_r ?_
 exact ⟨trivial, [], lf⟩
theorem text_zero : FnIs Tryz.prog 22 [.d (encPL [])] [] (.tup (.acons (.d (strD [])) (.acons (.d (i6 0)) .anil))) [] := by
 have hC := check_is [] (by decide) (by simp)
 have h0 : chkP [] = 0 := rfl
 rw [h0] at hC
 refine fnIs_of tab_ok Tryz.func22 rfl rfl rfl ?_;refine sR ?_;iterate 2 refine rC ?_
 refine nQ ?_;refine sR ?_;refine rC ?_;refine rQ (call_r hC rfl rfl (arg_e arg_nil) (.inl rfl) (fun _ => rfl)) ?_;refine rC ?_;refine nR ?_;iterate 2 refine rC ?_
 refine nS ?_;refine wG ?_;refine kS ?_;refine sR ?_;refine rN ?_;refine nQ ?_;refine sR ?_;refine rC ?_;refine rQ iE ?_;refine rC ?_;refine nS ?_;refine wc_block ?_
 refine wc_once ?_;refine sR ?_;refine rC ?_;refine nQ ?_;refine wG ?_;refine wc_exit ?_;refine seq_x ?_;refine loop_x ?_;refine blk_x ?_;refine seq_n ?_;refine sR ?_
 refine reg_new (call_h [(0, some 120)] bstring_zero rfl rfl rfl (arg_ptr rfl rfl arg_nil) ⟨⟨rfl, rfl, _, _, rfl, rfl, .refl _⟩, trivial⟩ rfl rfl (.inl rfl) rfl rfl) rfl ?_
 iterate 2 refine rC ?_
 refine nS ?_;refine wc_ret ?_
 exact ⟨trivial, [], lf⟩
theorem text_some (l : List (List POp)) (hB : Bd l) (hne : l ≠ []) (h0 : chkP l = 0) (hok : OkL l) : FnIs Tryz.prog 22 [.d (encPL l)] [] (.tup (.acons (.d (strD (textP l))) (.acons (.d (i6 0)) .anil))) [] := by
 have hC := check_is l hB.1 hB.2
 obtain ⟨htm, hdm⟩ := text_max hok h0
 rw [h0] at hC
 have hl8 : l.length ≤ 8 := (chkP_ok.1 h0).1
 refine fnIs_of tab_ok Tryz.func22 rfl rfl rfl ?_;refine sR ?_;iterate 2 refine rC ?_
 refine nQ ?_;refine sR ?_;refine rC ?_;refine rQ (call_r hC rfl rfl (arg_e arg_nil) (.inl rfl) (fun _ => rfl)) ?_;refine rC ?_;refine nR ?_;iterate 2 refine rC ?_
 refine nS ?_;refine wG ?_;refine kS ?_;refine sR ?_;refine rN ?_;refine nQ ?_;refine sR ?_;refine rC ?_;refine rQ iE ?_;refine rC ?_;refine nS ?_;refine wc_block ?_
 refine wc_inv (fun i : Nat => ⟨[(17, .int .i64 i), (16, .int .i64 l.length), (15, .d (encPL l)), (5, .ptr 65 [])], [(65, some (bldRow (Nat.beq i 0) 65 66 (textP (l.take i)).length)), (66, some (rowT (textP (l.take i))))], 72, Tryz.f22.ntmps, 64⟩) (fun i => i ≤ l.length) (fun i => l.length - i) 0 [(65, some 120), (66, none)] (Nat.zero_le _)
  (.of rfl rfl rfl rfl rfl ⟨⟨_, rfl, .refl _⟩, rfl, ⟨_, rfl, .refl _⟩, rfl, ⟨_, rfl, .refl _⟩, rfl, ⟨_, rfl, .refl _⟩, rfl, trivial⟩ ⟨⟨rfl, rfl, _, rfl, RowLe.split2⟩, ⟨rfl, rfl, rfl⟩, trivial⟩) ?_
 intro i hi
 refine wc_of ?_;refine sR ?_;refine rC ?_;refine nQ ?_
 refine wc_cond rfl (fun h3 => ?_) (fun h3 => ?_)
 ·have hlt : i < l.length := by have := of_decide_eq_true h3; omega
  obtain ⟨p, hp⟩ : ∃ p, l[i]? = some p := ⟨_, List.getElem?_eq_getElem hlt⟩
  have hp' : l[((i : Int)).toNat]? = some p := by rw [Int.toNat_natCast]; exact hp
  have hpm := List.mem_of_getElem? hp
  have hpB : p.length ≤ 1000000000 := hB.2 p hpm
  have hz := partT_le (j := 0) hp
  have hpz := partT_zero l i p
  have hpn : (partT l i p 0).length = (textP (l.take i)).length + (sClient ++ [10]).length := by rw [hpz, List.length_append]
  have hq1 : (textP (l.take i)).length + (sClient ++ [10]).length ≤ 1048576 := by rw [hpz, List.length_append] at hz; omega
  refine kS ?_;refine wc_seq ?_;refine wc_block ?_;refine sR ?_;refine rQ iA ?_;refine rQ iL ?_;refine rC ?_;refine nR ?_
  refine reg_do rfl (call_h [(0, some 65), (1, some 66)] (writestr_is (Nat.beq i 0) (textP (l.take i)) (sClient ++ [10]) (textP (l.take i)).length rfl (by decide) hq1) rfl rfl rfl (arg_ptr rfl rfl (arg_e arg_nil)) ⟨⟨rfl, (by cases Nat.beq i 0 <;> rfl), _, _, rfl, rfl, (by cases Nat.beq i 0 <;> exact .refl _)⟩, ⟨rfl, rfl, _, _, rfl, rfl, .refl _⟩, trivial⟩ rfl rfl (.inl rfl) rfl rfl) rfl rfl ?_
  refine nR ?_;refine rC ?_;refine rQ iE ?_;refine rC ?_;refine nS ?_;refine wc_block ?_
  refine wc_inv (fun j : Nat => ⟨[(24, .int .i64 j), (23, .int .i64 p.length), (22, .d (encP p)), (17, .int .i64 i), (16, .int .i64 l.length), (15, .d (encPL l)), (5, .ptr 65 [])], [(65, some (bldRow false 65 66 (partT l i p j).length)), (66, some (rowT (partT l i p j)))], 72, Tryz.f22.ntmps, 64⟩) (fun j => j ≤ p.length) (fun j => p.length - j) 0 [(66, some 104)] (Nat.zero_le _)
   (.of rfl rfl rfl rfl rfl ⟨⟨_, rfl, .refl _⟩, rfl, ⟨_, rfl, .refl _⟩, rfl, ⟨_, rfl, .refl _⟩, rfl, ⟨_, rfl, .refl _⟩, rfl, ⟨_, rfl, .refl _⟩, rfl, ⟨_, rfl, .refl _⟩, rfl, ⟨_, rfl, .refl _⟩, rfl, trivial⟩ ⟨⟨rfl, rfl, _, rfl, RowLe.of_eq (by rw [hpn]; rfl)⟩, ⟨rfl, rfl, _, rfl, RowLe.of_eq (by rw [hpz]; rfl)⟩, trivial⟩) ?_
  intro j hj
  refine wc_of ?_;refine sR ?_;refine rC ?_;refine nQ ?_
  refine wc_cond rfl (fun h4 => ?_) (fun h4 => ?_)
  ·have hjl : j < p.length := by have := of_decide_eq_true h4; omega
   obtain ⟨o, ho⟩ : ∃ o, p[j]? = some o := ⟨_, List.getElem?_eq_getElem hjl⟩
   have ho' : p[((j : Int)).toNat]? = some o := by rw [Int.toNat_natCast]; exact ho
   have hom := List.mem_of_getElem? ho
   have ho1 := hok p hpm o hom
   have ho2 : o.data.length ≤ 524288 := by have := hdm p hpm o hom; omega
   have hgo := partT_go (l := l) (i := i) ho
   have hpl := partT_le (j := j + 1) hp
   have hgn : (partT l i p (j + 1)).length = (partT l i p j).length + (lineP o ++ [10]).length := by rw [← hgo, List.length_append]
   have hq2 : (partT l i p j).length + (lineP o ++ [10]).length ≤ 1048576 := by rw [← hgo, List.length_append] at hpl; omega
   have hq3 : (lineP o).length + [(10 : UInt8)].length ≤ 9223372036854775807 := by simp only [List.length_append] at hq2; omega
   have hq4 : 0 < (lineP o ++ [10]).length := by simp
   refine kS ?_;refine wc_seq ?_;refine wc_block ?_;refine sR ?_;refine rQ iA ?_;refine rQ iL ?_;refine rN ?_;refine rW ?_;refine nS ?_;refine wc_region ?_;refine rQ iM ?_
   refine rQ (call_r (line_is o ho1 ho2) rfl rfl (arg_e arg_nil) (.inl rfl) (fun _ => rfl)) ?_;refine rQ (add_str (a := lineP o) (b := [10]) rfl rfl hq3 rfl) ?_;refine reg_do rfl (call_h [(0, some 65), (1, some 66)] (writestr_is false (partT l i p j) (lineP o ++ [10]) (partT l i p j).length rfl hq4 hq2) rfl rfl rfl (arg_ptr rfl rfl (arg_e arg_nil)) ⟨⟨rfl, rfl, _, _, rfl, rfl, .refl _⟩, ⟨rfl, rfl, _, _, rfl, rfl, .refl _⟩, trivial⟩ rfl rfl (.inl rfl) rfl rfl) rfl rfl ?_
   refine reg_nil ?_;refine blk_n ?_;refine seq_n ?_;refine wc_region ?_;refine rQ iD ?_;refine rC ?_;refine reg_nil ?_
   exact loop_n (j + 1) [(66, some 136)] hjl (by omega) (.of rfl rfl rfl rfl rfl ⟨⟨_, rfl, .refl _⟩, rfl, ⟨_, rfl, .refl _⟩, rfl, ⟨_, rfl, .refl _⟩, rfl, ⟨_, rfl, .refl _⟩, rfl, ⟨_, rfl, .refl _⟩, rfl, ⟨_, rfl, .refl _⟩, rfl, ⟨_, rfl, .refl _⟩, rfl, trivial⟩ ⟨⟨rfl, rfl, _, rfl, RowLe.of_eq (by rw [hgn]; rfl)⟩, ⟨rfl, rfl, _, rfl, RowLe.of_eq (congrArg rowT hgo)⟩, trivial⟩)
  ·have he : j = p.length := by have := of_decide_eq_false h4; omega
   subst he
   refine wc_exit ?_;refine seq_x ?_;refine loop_x ?_;refine blk_x ?_;refine blk_n ?_;refine seq_n ?_;refine wc_region ?_;refine rQ iD ?_;refine rC ?_;refine reg_nil ?_
   exact loop_n (i + 1) [] hlt (by omega) (.of rfl rfl rfl rfl rfl ⟨⟨_, rfl, .refl _⟩, rfl, ⟨_, rfl, .refl _⟩, rfl, ⟨_, rfl, .refl _⟩, rfl, ⟨_, rfl, .refl _⟩, rfl, trivial⟩ ⟨⟨rfl, rfl, _, rfl, RowLe.of_eq (by rw [partT_end hp]; rfl)⟩, ⟨rfl, rfl, _, rfl, RowLe.of_eq (congrArg rowT (partT_end hp))⟩, trivial⟩)
 ·have he : i = l.length := by have := of_decide_eq_false h3; omega
  subst he
  have hpos : 0 < l.length := List.length_pos_iff.2 hne
  have hne2 : textP l ≠ [] := fun e => by
   cases l with
   | nil => exact hne rfl
   | cons p l => simp [textP, sClient] at e
  have hbz : Nat.beq l.length 0 = false := by
   cases hz : Nat.beq l.length 0 with
   | false => rfl
   | true => have := Nat.eq_of_beq_eq_true hz; omega
  rw [hbz, List.take_length]
  refine wc_exit ?_;refine seq_x ?_;refine loop_x ?_;refine blk_x ?_;refine seq_n ?_;refine sR ?_;refine reg_new2 (call_h [(0, some 65), (1, some 66)] (bstring_is (textP l) (textP l).length rfl hne2 htm) rfl rfl rfl (arg_ptr rfl rfl arg_nil) ⟨⟨rfl, rfl, _, _, rfl, rfl, .refl _⟩, ⟨rfl, rfl, _, _, rfl, rfl, .refl _⟩, trivial⟩ rfl rfl (.inl rfl) rfl rfl) rfl ?_
  iterate 2 refine rC ?_
  refine nS ?_;refine wc_ret ?_
  exact ⟨trivial, [], lf⟩
theorem text_is (l : List (List POp)) (hB : Bd l) (hok : OkL l) : FnIs Tryz.prog 22 [.d (encPL l)] [] (.tup (.acons (.d (strD (if chkP l = 0 then textP l else []))) (.acons (.d (i6 (chkP l))) .anil))) [] := by
 by_cases h0 : chkP l = 0
 ·rw [if_pos h0, h0]
  by_cases hn : l = []
  ·subst hn; exact text_zero
  ·exact text_some l hB hn h0 hok
 ·rw [if_neg h0]
  exact text_bad l hB h0
end Go.Proofs.YthiijfbcfoifnaaGreatDoor
namespace Go.Proofs.YthiijfbcfoifnaaGreatDoor
open Go.Eng Go.Plain
set_option maxHeartbeats 4000000
attribute [local irreducible] WC RegS RegD SeqQ BlkQ ScoQ RegK CutK Sat SatN FnIs LoopQ StepIs OpIs
abbrev rowS (l : List (List UInt8)) : Row := .ds 9 1 false strD l
theorem grow_is (m : Nat) (hm : 0 < m) (hlen : m ≤ 1048576) : FnIs Tryz.prog 138 [.d (.sc nil_), .int .i64 m] [] (.own 64 0 0 1 none) [(64, rowS [])] := by
 have d0 : decide ((m : Int) < 0) = false := dF (by omega)
 have d1 : decide (0 < (m : Int)) = true := dT (by omega)
 have hw : IntKind.i64.wrap ((m : Int) - 0) = m := by rw [Int.sub_zero]; exact wrap_i64 (by omega) (by omega)
 refine fnIs_of tab_ok Tryz.func138 rfl rfl rfl ?_;refine sR ?_;refine rC ?_;refine nQ ?_;refine sR ?_;iterate 2 refine rC ?_
 refine nS ?_;refine wG ?_;refine kS ?_;refine qR ?_;iterate 2 refine rC ?_
 refine rQ (cap_nil tab_ok rfl rfl) ?_;refine rC ?_;refine rQ (len_nil tab_ok rfl rfl) ?_;refine rQ (sub_int (m := 0) tab_ok rfl rfl rfl) ?_;refine rQ (sub_int (m := (m : Int)) tab_ok rfl rfl hw) ?_
 refine rC ?_;refine nR ?_;iterate 2 refine rC ?_
 refine nS ?_;refine wT ?_;refine wc_region ?_;iterate 2 refine rC ?_
 refine rQ (cap_nil tab_ok rfl rfl) ?_;refine rQ (slice_n0 tab_ok rfl rfl rfl rfl) ?_;refine rC ?_;refine reg_new (append_zeros (m := m) (s := 1) (e := 9) (re := r9) tab_ok strD rfl Tryz.underlying3 rfl rfl rfl rfl rfl hm hlen rfl) rfl ?_
 refine rC ?_;refine rQ (len_nil tab_ok rfl rfl) ?_;refine rQ (slice_own_to tab_ok rfl rfl rfl rfl (Nat.zero_le _)) ?_;refine rC ?_;refine nR ?_;iterate 2 refine rC ?_
 refine nS ?_;refine wc_ret ?_
 exact ⟨trivial, [(64, some 208)], .of rfl rfl rfl rfl rfl ⟨⟨_, rfl, AVLe.of_eq rfl⟩, rfl, trivial⟩ ⟨⟨rfl, rfl, _, rfl, .refl _⟩, trivial⟩⟩
abbrev encWs (x : List (List UInt8)) : D := .arr 1 strD x
abbrev FL (ls : List (List (List UInt8))) (i : Nat) : Nat := (ls.take i).flatten.length
theorem fl_go {ls : List (List (List UInt8))} {i : Nat} {x : List (List UInt8)} (h : ls[i]? = some x) : (ls.take (i + 1)).flatten = (ls.take i).flatten ++ x := by
 rw [List.take_add_one, h]
 simp
theorem fl_le (ls : List (List (List UInt8))) (i : Nat) : FL ls i ≤ ls.flatten.length := by
 have := congrArg List.flatten (List.take_append_drop i ls)
 rw [List.flatten_append] at this
 have := congrArg List.length this
 rw [List.length_append] at this
 simp only [FL]
 omega
theorem concat_is (ls : List (List (List UInt8))) (hp : 0 < ls.flatten.length) (hL : ls.flatten.length ≤ 1048576) (hn : ls.length ≤ 1000000) : FnIs Tryz.prog 113 [.d (.arr 1 encWs ls)] [] (.own 64 0 ls.flatten.length 1 none) [(64, rowS ls.flatten)] := by
 refine fnIs_of tab_ok Tryz.func113 rfl rfl rfl ?_;refine sR ?_;refine rC ?_;refine nR ?_;refine rC ?_;refine nQ ?_;refine sR ?_;refine rC ?_;refine rQ iE ?_;refine rC ?_
 refine nS ?_;refine wc_block ?_
 refine wc_inv (fun i : Nat => ⟨[(11, .int .i64 i), (10, .int .i64 ls.length), (9, .d (.arr 1 encWs ls)), (3, .int .i64 (FL ls i)), (0, .d (.arr 1 encWs ls))], [], 72, Tryz.f113.ntmps, 64⟩) (fun i => i ≤ ls.length) (fun i => ls.length - i) 0 [] (Nat.zero_le _)
  (.of rfl rfl rfl rfl rfl ⟨⟨_, rfl, .refl _⟩, rfl, ⟨_, rfl, .refl _⟩, rfl, ⟨_, rfl, .refl _⟩, rfl, ⟨_, rfl, .refl _⟩, rfl, ⟨_, rfl, .refl _⟩, rfl, trivial⟩ trivial) ?_
 intro i hi
 refine wc_of ?_;refine sR ?_;refine rC ?_;refine nQ ?_
 refine wc_cond rfl (fun h2 => ?_) (fun h2 => ?_)
 ·have hlt : i < ls.length := by have := of_decide_eq_true h2; omega
  obtain ⟨x, hx⟩ : ∃ u, ls[i]? = some u := ⟨_, List.getElem?_eq_getElem hlt⟩
  have hx' : ls[((i : Int)).toNat]? = some x := by rw [Int.toNat_natCast]; exact hx
  have hg : FL ls (i + 1) = FL ls i + x.length := by simp only [FL, fl_go hx, List.length_append]
  have hle := fl_le ls (i + 1)
  have hw : IntKind.i64.wrap ((FL ls i : Int) + (x.length : Int)) = (FL ls (i + 1) : Nat) := by rw [hg]; push_cast; exact wrap_i64 (by omega) (by omega)
  have d0 : decide (((FL ls (i + 1) : Nat) : Int) < 0) = false := dF (by omega)
  refine kS ?_;refine wc_seq ?_;refine wc_block ?_;refine sR ?_;refine rQ iA ?_;refine rQ iL ?_;refine rC ?_;refine nR ?_;iterate 2 refine rC ?_
  refine rQ iE ?_;refine rQ (add_int (m := ((FL ls (i + 1) : Nat) : Int)) tab_ok rfl rfl hw) ?_;refine rC ?_;refine nR ?_;iterate 2 refine rC ?_
  refine nS ?_;refine wG ?_;refine wc_skip ?_;refine blk_n ?_;refine seq_n ?_;refine wc_region ?_;refine rQ iD ?_;refine rC ?_;refine reg_nil ?_;refine loop_n (i + 1) [] hlt (by omega) ?_
  exact .of rfl rfl rfl rfl rfl ⟨⟨_, rfl, .refl _⟩, rfl, ⟨_, rfl, .refl _⟩, rfl, ⟨_, rfl, .refl _⟩, rfl, ⟨_, rfl, .refl _⟩, rfl, ⟨_, rfl, .refl _⟩, rfl, trivial⟩ trivial
 ·have he : i = ls.length := by have := of_decide_eq_false h2; omega
  subst he
  have hF : FL ls ls.length = ls.flatten.length := by simp only [FL, List.take_length]
  rw [hF]
  refine wc_exit ?_;refine seq_x ?_;refine loop_x ?_;refine blk_x ?_;refine seq_n ?_;refine sR ?_;refine rC ?_;refine reg_new (call_new (grow_is ls.flatten.length hp hL) rfl rfl (arg_e (arg_e arg_nil)) (.inl rfl) rfl rfl) rfl ?_
  refine rC ?_;refine nQ ?_;refine sR ?_;refine rC ?_;refine rQ iE ?_;refine rC ?_;refine nS ?_;refine wc_block ?_
  refine wc_inv (fun i : Nat => ⟨[(27, .int .i64 i), (26, .int .i64 ls.length), (25, .d (.arr 1 encWs ls)), (6, .own 64 0 (FL ls i) 1 none)], [(64, some (rowS (ls.take i).flatten))], 72, Tryz.f113.ntmps, 64⟩) (fun i => i ≤ ls.length) (fun i => ls.length - i) 0 [(64, some 88)] (Nat.zero_le _)
   (.of rfl rfl rfl rfl rfl ⟨⟨_, rfl, .refl _⟩, rfl, ⟨_, rfl, .refl _⟩, rfl, ⟨_, rfl, .refl _⟩, rfl, ⟨_, rfl, .refl _⟩, rfl, trivial⟩ ⟨⟨rfl, rfl, _, rfl, .refl _⟩, trivial⟩) ?_
  intro i hi
  refine wc_of ?_;refine sR ?_;refine rC ?_;refine nQ ?_
  refine wc_cond rfl (fun h2 => ?_) (fun h2 => ?_)
  ·have hlt : i < ls.length := by have := of_decide_eq_true h2; omega
   obtain ⟨x, hx⟩ : ∃ u, ls[i]? = some u := ⟨_, List.getElem?_eq_getElem hlt⟩
   have hx' : ls[((i : Int)).toNat]? = some x := by rw [Int.toNat_natCast]; exact hx
   have hg := fl_go hx
   have hle := fl_le ls (i + 1)
   cases x with
   | nil =>
    rw [List.append_nil] at hg
    refine kS ?_;refine wc_seq ?_;refine wc_block ?_;refine sR ?_;refine rQ iA ?_;refine rQ iL ?_;refine rC ?_;refine nS ?_;refine wc_region ?_;iterate 2 refine rC ?_
    refine rQ (append_own_e (α := (List UInt8)) (s' := 1) (enc := strD) tab_ok rfl rfl rfl rfl) ?_;refine rC ?_;refine reg_nil ?_;refine blk_n ?_;refine seq_n ?_;refine wc_region ?_
    refine rQ iD ?_;refine rC ?_;refine reg_nil ?_;refine loop_n (i + 1) [] hlt (by omega) ?_
    simp only [FL, hg]
    exact .of rfl rfl rfl rfl rfl ⟨⟨_, rfl, .refl _⟩, rfl, ⟨_, rfl, .refl _⟩, rfl, ⟨_, rfl, .refl _⟩, rfl, ⟨_, rfl, .refl _⟩, rfl, trivial⟩ ⟨⟨rfl, rfl, _, rfl, .refl _⟩, trivial⟩
   | cons y ys =>
    have hgl : FL ls (i + 1) = FL ls i + (y :: ys).length := by simp only [FL, hg, List.length_append]
    have hlen : ((ls.take i).flatten).length + (y :: ys).length ≤ 1048576 := by rw [← hgl]; omega
    refine kS ?_;refine wc_seq ?_;refine wc_block ?_;refine sR ?_;refine rQ iA ?_;refine rQ iL ?_;refine rC ?_;refine nS ?_;refine wc_region ?_;iterate 2 refine rC ?_
    refine reg_new2 (append_arr (xs := (ls.take i).flatten) (ys := y :: ys) (enc := strD) (s := 1) (ex := false) tab_ok rfl rfl rfl rfl rfl rfl rfl (Nat.succ_pos _) hlen rfl) rfl ?_
    refine rC ?_;refine reg_nil ?_;refine blk_n ?_;refine seq_n ?_;refine wc_region ?_;refine rQ iD ?_;refine rC ?_;refine reg_nil ?_;refine loop_n (i + 1) [(64, some 120)] hlt (by omega) ?_
    rw [hgl, hg]
    exact .of rfl rfl rfl rfl rfl ⟨⟨_, rfl, .refl _⟩, rfl, ⟨_, rfl, .refl _⟩, rfl, ⟨_, rfl, .refl _⟩, rfl, ⟨_, rfl, .refl _⟩, rfl, trivial⟩ ⟨⟨rfl, rfl, _, rfl, .refl _⟩, trivial⟩
  ·have he : i = ls.length := by have := of_decide_eq_false h2; omega
   subst he
   refine wc_exit ?_;refine seq_x ?_;refine loop_x ?_;refine blk_x ?_;refine seq_n ?_;refine sR ?_;iterate 2 refine rC ?_
   refine nS ?_;refine wc_ret ?_
   simp only [FL, List.take_length]
   exact ⟨trivial, [(64, some 64)], .of rfl rfl rfl rfl rfl ⟨⟨_, rfl, AVLe.of_eq rfl⟩, rfl, trivial⟩ ⟨⟨rfl, rfl, _, rfl, .refl _⟩, trivial⟩⟩
end Go.Proofs.YthiijfbcfoifnaaGreatDoor
namespace Go.Proofs.YthiijfbcfoifnaaGreatDoor
open Go.Eng Go.Plain
set_option maxHeartbeats 4000000
set_option maxRecDepth 20000
attribute [local irreducible] WC RegS RegD SeqQ BlkQ ScoQ RegK CutK Sat SatN FnIs LoopQ StepIs OpIs
def opV (k i d : List UInt8) : POp := ⟨puV k, atoiV i, (unhexP d).getD []⟩
def opOk (k i d : List UInt8) : Bool := (unhexP d).isSome && puOk k && atoiOk i
abbrev opR (o : POp) (b : Bool) : AV := .tup (.acons (.d (encPOp o)) (.acons (.bool b) .anil))
def opNil : POp := ⟨0, 0, []⟩
theorem puV_in (k : List UInt8) : 0 ≤ puV k ∧ puV k ≤ 255 := by
 unfold puV
 split
 ·rename_i u h
  rw [Lib.parseUintB] at h
  split at h
  ·cases h
  ·have := Lib.parseUintM_le (2 ^ 8 - 1) _ 0 _ (by decide) h
   omega
 ·omega
 ·omega
theorem opF_is (k i d : List UInt8) : opF k i d = if opOk k i d then some (opV k i d) else none := by
 unfold opF opOk opV puOk puV atoiOk atoiV
 cases Lib.parseUintB 8 k <;> cases Lib.atoiAll i <;> cases unhexP d <;> rfl
theorem nil_op : AVLe (.d (.cons (.sc (.int .u8 0)) (.cons (.sc (.int .i64 0)) (.cons (.sc nil_) .nil)))) (.d (encPOp opNil)) := by
 intro σ w X v h
 unfold RelV at h ⊢
 rw [if_pos (by rfl)] at h ⊢
 obtain ⟨c, rfl, c1, r1, rfl, h1, c2, r2, rfl, h2, c3, r3, rfl, h3, h4⟩ := h
 exact ⟨_, rfl, c1, _, rfl, h1, c2, _, rfl, h2, c3, r3, rfl, .inl ⟨rfl, h3.1⟩, h4⟩
theorem operation_short (w : List (List UInt8)) (h3 : w.length ≠ 3) : FnIs Tryz.prog 112 [.d (.arr 1 strD w)] [] (opR opNil false) [] := by
 have hn : (!decide ((w.length : Int) = 3)) = true := by rw [dF (by omega)]; rfl
 refine fnIs_of tab_ok Tryz.func112 rfl rfl rfl ?_;refine sR ?_;refine rN ?_;refine rC ?_;refine nQ ?_;refine sR ?_;refine rC ?_;refine rQ iE ?_;refine rC ?_;refine nS ?_
 refine wT ?_;refine sR ?_;refine rQ iM ?_;refine rW ?_;refine rC ?_;refine nS ?_;refine wc_ret ?_;refine seq_r ?_
 exact ⟨trivial, _, rfl, [], .of rfl rfl rfl rfl rfl ⟨⟨_, rfl, AVLe.tup1 nil_op rfl⟩, rfl, trivial⟩ trivial⟩
theorem operation_full (k i d : List UInt8) (hk : k.length ≤ 281474976710656) (hi : i.length ≤ 281474976710656) (hd : d.length ≤ 1048576) (b1 b2 b3 : Bool) (h1 : (unhexP d).isSome = b1) (h2 : puOk k = b2) (h3 : atoiOk i = b3) : FnIs Tryz.prog 112 [.d (.arr 1 strD [k, i, d])] [] (opR (opV k i d) (opOk k i d)) [] := by
 have hw : IntKind.u8.wrap (puV k) = puV k := by
  obtain ⟨p1, p2⟩ := puV_in k
  rw [show puV k = ((puV k).toNat : Int) by omega]
  exact wrap_u8n (by omega)
 rw [show opOk k i d = (b1 && b2 && b3) by rw [opOk, h1, h2, h3]]
 have hp := pu_is hk
 have ha := atoi_is hi
 have hu := unhex_is d hd
 rw [h2] at hp
 rw [h3] at ha
 unfold unR at hu
 rw [h1] at hu
 refine fnIs_of tab_ok Tryz.func112 rfl rfl rfl ?_
 have g0 : [k, i, d][((0 : Int)).toNat]? = some k := rfl
 have g1 : [k, i, d][((1 : Int)).toNat]? = some i := rfl
 have g2 : [k, i, d][((2 : Int)).toNat]? = some d := rfl
 cases b1 <;> cases b2 <;> cases b3
 ·refine sR ?_;refine rN ?_;refine rC ?_;refine nQ ?_;refine sR ?_;refine rC ?_;refine rQ iE ?_;refine rC ?_;refine nS ?_;refine wG ?_;refine kS ?_;refine sR ?_
  refine rC ?_;refine rQ iA ?_;refine rQ iL ?_;refine rQ (call_r hp rfl rfl (arg_e (arg_e (arg_e arg_nil))) (.inl rfl) (fun _ => rfl)) ?_;iterate 5 refine rC ?_
  refine nR ?_;refine rC ?_;refine rQ iA ?_;refine rQ iL ?_;refine rQ (call_r ha rfl rfl (arg_e arg_nil) (.inl rfl) (fun _ => rfl)) ?_;iterate 5 refine rC ?_
  refine nR ?_;refine rC ?_;refine rQ iA ?_;refine rQ iL ?_;refine rQ (call_r hu rfl rfl (arg_e arg_nil) (.inl rfl) (fun _ => rfl)) ?_;iterate 5 refine rC ?_
  refine nQ ?_;refine wc_draw (by kernel_rfl) ?_;refine dC [4] [] ?_;refine dQ [34] [] (conv_int (m := puV k) tab_ok rfl rfl rfl hw) ?_;refine dC [6] [] ?_;refine dC [8] [] ?_
  refine dQ [35, 36, 37] [] iS ?_;refine dC [3] [] ?_;refine dC [39] [] ?_;refine dreg_offq [40, 5] rfl rfl rfl rfl ?_;refine dreg_offq [40, 41] rfl rfl rfl rfl ?_
  refine dQ [40, 42] [] iG ?_;refine dC [43] [] ?_;refine dreg_offq [44, 7] rfl rfl rfl rfl ?_;refine dreg_offq [44, 45] rfl rfl rfl rfl ?_;refine dQ [44, 46] [] iG ?_
  refine dreg_s [2, 38] [64] (store_row tab_ok rfl rfl rfl ⟨_, ⟨rfl, rfl, rfl⟩, rfl⟩ rfl) ?_;refine dC [47] [] ?_;refine dreg_end (by kernel_rfl) ?_;refine seq_n ?_
  refine wc_ret ?_
  exact ⟨trivial, _, rfl, [], lf⟩
 ·refine sR ?_;refine rN ?_;refine rC ?_;refine nQ ?_;refine sR ?_;refine rC ?_;refine rQ iE ?_;refine rC ?_;refine nS ?_;refine wG ?_;refine kS ?_;refine sR ?_
  refine rC ?_;refine rQ iA ?_;refine rQ iL ?_;refine rQ (call_r hp rfl rfl (arg_e (arg_e (arg_e arg_nil))) (.inl rfl) (fun _ => rfl)) ?_;iterate 5 refine rC ?_
  refine nR ?_;refine rC ?_;refine rQ iA ?_;refine rQ iL ?_;refine rQ (call_r ha rfl rfl (arg_e arg_nil) (.inl rfl) (fun _ => rfl)) ?_;iterate 5 refine rC ?_
  refine nR ?_;refine rC ?_;refine rQ iA ?_;refine rQ iL ?_;refine rQ (call_r hu rfl rfl (arg_e arg_nil) (.inl rfl) (fun _ => rfl)) ?_;iterate 5 refine rC ?_
  refine nQ ?_;refine wc_draw (by kernel_rfl) ?_;refine dC [4] [] ?_;refine dQ [34] [] (conv_int (m := puV k) tab_ok rfl rfl rfl hw) ?_;refine dC [6] [] ?_;refine dC [8] [] ?_
  refine dQ [35, 36, 37] [] iS ?_;refine dC [3] [] ?_;refine dC [39] [] ?_;refine dreg_offq [40, 5] rfl rfl rfl rfl ?_;refine dreg_offq [40, 41] rfl rfl rfl rfl ?_
  refine dQ [40, 42] [] iG ?_;refine dC [43] [] ?_;refine dreg_offq [44, 7] rfl rfl rfl rfl ?_;refine dreg_offq [44, 45] rfl rfl rfl rfl ?_;refine dQ [44, 46] [] iG ?_
  refine dreg_s [2, 38] [64] (store_row tab_ok rfl rfl rfl ⟨_, ⟨rfl, rfl, rfl⟩, rfl⟩ rfl) ?_;refine dC [47] [] ?_;refine dreg_end (by kernel_rfl) ?_;refine seq_n ?_
  refine wc_ret ?_
  exact ⟨trivial, _, rfl, [], lf⟩
 ·refine sR ?_;refine rN ?_;refine rC ?_;refine nQ ?_;refine sR ?_;refine rC ?_;refine rQ iE ?_;refine rC ?_;refine nS ?_;refine wG ?_;refine kS ?_;refine sR ?_
  refine rC ?_;refine rQ iA ?_;refine rQ iL ?_;refine rQ (call_r hp rfl rfl (arg_e (arg_e (arg_e arg_nil))) (.inl rfl) (fun _ => rfl)) ?_;iterate 5 refine rC ?_
  refine nR ?_;refine rC ?_;refine rQ iA ?_;refine rQ iL ?_;refine rQ (call_r ha rfl rfl (arg_e arg_nil) (.inl rfl) (fun _ => rfl)) ?_;iterate 5 refine rC ?_
  refine nR ?_;refine rC ?_;refine rQ iA ?_;refine rQ iL ?_;refine rQ (call_r hu rfl rfl (arg_e arg_nil) (.inl rfl) (fun _ => rfl)) ?_;iterate 5 refine rC ?_
  refine nQ ?_;refine wc_draw (by kernel_rfl) ?_;refine dC [4] [] ?_;refine dQ [34] [] (conv_int (m := puV k) tab_ok rfl rfl rfl hw) ?_;refine dC [6] [] ?_;refine dC [8] [] ?_
  refine dQ [35, 36, 37] [] iS ?_;refine dC [3] [] ?_;refine dC [39] [] ?_;refine dreg_offq [40, 5] rfl rfl rfl rfl ?_;refine dreg_offq [40, 41] rfl rfl rfl rfl ?_
  refine dQ [40, 42] [] iG ?_;refine dC [43] [] ?_;refine dreg_offq [44, 7] rfl rfl rfl rfl ?_;refine dreg_offq [44, 45] rfl rfl rfl rfl ?_;refine dQ [44, 46] [] iG ?_
  refine dreg_s [2, 38] [64] (store_row tab_ok rfl rfl rfl ⟨_, ⟨rfl, rfl, rfl⟩, rfl⟩ rfl) ?_;refine dC [47] [] ?_;refine dreg_end (by kernel_rfl) ?_;refine seq_n ?_
  refine wc_ret ?_
  exact ⟨trivial, _, rfl, [], lf⟩
 ·refine sR ?_;refine rN ?_;refine rC ?_;refine nQ ?_;refine sR ?_;refine rC ?_;refine rQ iE ?_;refine rC ?_;refine nS ?_;refine wG ?_;refine kS ?_;refine sR ?_
  refine rC ?_;refine rQ iA ?_;refine rQ iL ?_;refine rQ (call_r hp rfl rfl (arg_e (arg_e (arg_e arg_nil))) (.inl rfl) (fun _ => rfl)) ?_;iterate 5 refine rC ?_
  refine nR ?_;refine rC ?_;refine rQ iA ?_;refine rQ iL ?_;refine rQ (call_r ha rfl rfl (arg_e arg_nil) (.inl rfl) (fun _ => rfl)) ?_;iterate 5 refine rC ?_
  refine nR ?_;refine rC ?_;refine rQ iA ?_;refine rQ iL ?_;refine rQ (call_r hu rfl rfl (arg_e arg_nil) (.inl rfl) (fun _ => rfl)) ?_;iterate 5 refine rC ?_
  refine nQ ?_;refine wc_draw (by kernel_rfl) ?_;refine dC [4] [] ?_;refine dQ [34] [] (conv_int (m := puV k) tab_ok rfl rfl rfl hw) ?_;refine dC [6] [] ?_;refine dC [8] [] ?_
  refine dQ [35, 36, 37] [] iS ?_;refine dC [3] [] ?_;refine dC [39] [] ?_;refine dreg_offq [40, 5] rfl rfl rfl rfl ?_;refine dreg_offq [40, 41] rfl rfl rfl rfl ?_
  refine dQ [40, 42] [] iG ?_;refine dC [43] [] ?_;refine dreg_offq [44, 7] rfl rfl rfl rfl ?_;refine dreg_offq [44, 45] rfl rfl rfl rfl ?_;refine dQ [44, 46] [] iG ?_
  refine dreg_s [2, 38] [64] (store_row tab_ok rfl rfl rfl ⟨_, ⟨rfl, rfl, rfl⟩, rfl⟩ rfl) ?_;refine dC [47] [] ?_;refine dreg_end (by kernel_rfl) ?_;refine seq_n ?_
  refine wc_ret ?_
  exact ⟨trivial, _, rfl, [], lf⟩
 ·refine sR ?_;refine rN ?_;refine rC ?_;refine nQ ?_;refine sR ?_;refine rC ?_;refine rQ iE ?_;refine rC ?_;refine nS ?_;refine wG ?_;refine kS ?_;refine sR ?_
  refine rC ?_;refine rQ iA ?_;refine rQ iL ?_;refine rQ (call_r hp rfl rfl (arg_e (arg_e (arg_e arg_nil))) (.inl rfl) (fun _ => rfl)) ?_;iterate 5 refine rC ?_
  refine nR ?_;refine rC ?_;refine rQ iA ?_;refine rQ iL ?_;refine rQ (call_r ha rfl rfl (arg_e arg_nil) (.inl rfl) (fun _ => rfl)) ?_;iterate 5 refine rC ?_
  refine nR ?_;refine rC ?_;refine rQ iA ?_;refine rQ iL ?_;refine rQ (call_r hu rfl rfl (arg_e arg_nil) (.inl rfl) (fun _ => rfl)) ?_;iterate 5 refine rC ?_
  refine nQ ?_;refine wc_draw (by kernel_rfl) ?_;refine dC [4] [] ?_;refine dQ [34] [] (conv_int (m := puV k) tab_ok rfl rfl rfl hw) ?_;refine dC [6] [] ?_;refine dC [8] [] ?_
  refine dQ [35, 36, 37] [] iS ?_;refine dC [3] [] ?_;refine dC [39] [] ?_;refine dreg_onq [40, 5] [] rfl rfl rfl rfl (step_C tab_ok (fun K hk => hk)) ?_;refine dreg_onq [40, 41] [] rfl rfl rfl rfl (eql_er Tryz.underlying88 rfl) ?_
  refine dQ [40, 42] [] iU ?_;refine dC [43] [] ?_;refine dreg_offq [44, 7] rfl rfl rfl rfl ?_;refine dreg_offq [44, 45] rfl rfl rfl rfl ?_;refine dQ [44, 46] [] iG ?_
  refine dreg_s [2, 38] [64] (store_row tab_ok rfl rfl rfl ⟨_, ⟨rfl, rfl, rfl⟩, rfl⟩ rfl) ?_;refine dC [47] [] ?_;refine dreg_end (by kernel_rfl) ?_;refine seq_n ?_
  refine wc_ret ?_
  exact ⟨trivial, _, rfl, [], lf⟩
 ·refine sR ?_;refine rN ?_;refine rC ?_;refine nQ ?_;refine sR ?_;refine rC ?_;refine rQ iE ?_;refine rC ?_;refine nS ?_;refine wG ?_;refine kS ?_;refine sR ?_
  refine rC ?_;refine rQ iA ?_;refine rQ iL ?_;refine rQ (call_r hp rfl rfl (arg_e (arg_e (arg_e arg_nil))) (.inl rfl) (fun _ => rfl)) ?_;iterate 5 refine rC ?_
  refine nR ?_;refine rC ?_;refine rQ iA ?_;refine rQ iL ?_;refine rQ (call_r ha rfl rfl (arg_e arg_nil) (.inl rfl) (fun _ => rfl)) ?_;iterate 5 refine rC ?_
  refine nR ?_;refine rC ?_;refine rQ iA ?_;refine rQ iL ?_;refine rQ (call_r hu rfl rfl (arg_e arg_nil) (.inl rfl) (fun _ => rfl)) ?_;iterate 5 refine rC ?_
  refine nQ ?_;refine wc_draw (by kernel_rfl) ?_;refine dC [4] [] ?_;refine dQ [34] [] (conv_int (m := puV k) tab_ok rfl rfl rfl hw) ?_;refine dC [6] [] ?_;refine dC [8] [] ?_
  refine dQ [35, 36, 37] [] iS ?_;refine dC [3] [] ?_;refine dC [39] [] ?_;refine dreg_onq [40, 5] [] rfl rfl rfl rfl (step_C tab_ok (fun K hk => hk)) ?_;refine dreg_onq [40, 41] [] rfl rfl rfl rfl (eql_er Tryz.underlying88 rfl) ?_
  refine dQ [40, 42] [] iU ?_;refine dC [43] [] ?_;refine dreg_offq [44, 7] rfl rfl rfl rfl ?_;refine dreg_offq [44, 45] rfl rfl rfl rfl ?_;refine dQ [44, 46] [] iG ?_
  refine dreg_s [2, 38] [64] (store_row tab_ok rfl rfl rfl ⟨_, ⟨rfl, rfl, rfl⟩, rfl⟩ rfl) ?_;refine dC [47] [] ?_;refine dreg_end (by kernel_rfl) ?_;refine seq_n ?_
  refine wc_ret ?_
  exact ⟨trivial, _, rfl, [], lf⟩
 ·refine sR ?_;refine rN ?_;refine rC ?_;refine nQ ?_;refine sR ?_;refine rC ?_;refine rQ iE ?_;refine rC ?_;refine nS ?_;refine wG ?_;refine kS ?_;refine sR ?_
  refine rC ?_;refine rQ iA ?_;refine rQ iL ?_;refine rQ (call_r hp rfl rfl (arg_e (arg_e (arg_e arg_nil))) (.inl rfl) (fun _ => rfl)) ?_;iterate 5 refine rC ?_
  refine nR ?_;refine rC ?_;refine rQ iA ?_;refine rQ iL ?_;refine rQ (call_r ha rfl rfl (arg_e arg_nil) (.inl rfl) (fun _ => rfl)) ?_;iterate 5 refine rC ?_
  refine nR ?_;refine rC ?_;refine rQ iA ?_;refine rQ iL ?_;refine rQ (call_r hu rfl rfl (arg_e arg_nil) (.inl rfl) (fun _ => rfl)) ?_;iterate 5 refine rC ?_
  refine nQ ?_;refine wc_draw (by kernel_rfl) ?_;refine dC [4] [] ?_;refine dQ [34] [] (conv_int (m := puV k) tab_ok rfl rfl rfl hw) ?_;refine dC [6] [] ?_;refine dC [8] [] ?_
  refine dQ [35, 36, 37] [] iS ?_;refine dC [3] [] ?_;refine dC [39] [] ?_;refine dreg_onq [40, 5] [] rfl rfl rfl rfl (step_C tab_ok (fun K hk => hk)) ?_;refine dreg_onq [40, 41] [] rfl rfl rfl rfl (eql_nilI Tryz.underlying88 rfl) ?_
  refine dQ [40, 42] [] iU ?_;refine dC [43] [] ?_;refine dreg_onq [44, 7] [] rfl rfl rfl rfl (step_C tab_ok (fun K hk => hk)) ?_;refine dreg_onq [44, 45] [] rfl rfl rfl rfl (eql_er Tryz.underlying88 rfl) ?_
  refine dQ [44, 46] [] iU ?_;refine dreg_s [2, 38] [64] (store_row tab_ok rfl rfl rfl ⟨_, ⟨rfl, rfl, rfl⟩, rfl⟩ rfl) ?_;refine dC [47] [] ?_;refine dreg_end (by kernel_rfl) ?_
  refine seq_n ?_;refine wc_ret ?_
  exact ⟨trivial, _, rfl, [], lf⟩
 ·refine sR ?_;refine rN ?_;refine rC ?_;refine nQ ?_;refine sR ?_;refine rC ?_;refine rQ iE ?_;refine rC ?_;refine nS ?_;refine wG ?_;refine kS ?_;refine sR ?_
  refine rC ?_;refine rQ iA ?_;refine rQ iL ?_;refine rQ (call_r hp rfl rfl (arg_e (arg_e (arg_e arg_nil))) (.inl rfl) (fun _ => rfl)) ?_;iterate 5 refine rC ?_
  refine nR ?_;refine rC ?_;refine rQ iA ?_;refine rQ iL ?_;refine rQ (call_r ha rfl rfl (arg_e arg_nil) (.inl rfl) (fun _ => rfl)) ?_;iterate 5 refine rC ?_
  refine nR ?_;refine rC ?_;refine rQ iA ?_;refine rQ iL ?_;refine rQ (call_r hu rfl rfl (arg_e arg_nil) (.inl rfl) (fun _ => rfl)) ?_;iterate 5 refine rC ?_
  refine nQ ?_;refine wc_draw (by kernel_rfl) ?_;refine dC [4] [] ?_;refine dQ [34] [] (conv_int (m := puV k) tab_ok rfl rfl rfl hw) ?_;refine dC [6] [] ?_;refine dC [8] [] ?_
  refine dQ [35, 36, 37] [] iS ?_;refine dC [3] [] ?_;refine dC [39] [] ?_;refine dreg_onq [40, 5] [] rfl rfl rfl rfl (step_C tab_ok (fun K hk => hk)) ?_;refine dreg_onq [40, 41] [] rfl rfl rfl rfl (eql_nilI Tryz.underlying88 rfl) ?_
  refine dQ [40, 42] [] iU ?_;refine dC [43] [] ?_;refine dreg_onq [44, 7] [] rfl rfl rfl rfl (step_C tab_ok (fun K hk => hk)) ?_;refine dreg_onq [44, 45] [] rfl rfl rfl rfl (eql_nilI Tryz.underlying88 rfl) ?_
  refine dQ [44, 46] [] iU ?_;refine dreg_s [2, 38] [64] (store_row tab_ok rfl rfl rfl ⟨_, ⟨rfl, rfl, rfl⟩, rfl⟩ rfl) ?_;refine dC [47] [] ?_;refine dreg_end (by kernel_rfl) ?_
  refine seq_n ?_;refine wc_ret ?_
  exact ⟨trivial, _, rfl, [], lf⟩
def opW (w : List (List UInt8)) : POp × Bool := match w with
 | [k, i, d] => (opV k i d, opOk k i d)
 | _ => (opNil, false)
theorem operation_is (w : List (List UInt8)) (hw : ∀ x ∈ w, x.length ≤ 1048576) : FnIs Tryz.prog 112 [.d (.arr 1 strD w)] [] (opR (opW w).1 (opW w).2) [] := by
 by_cases h3 : w.length = 3
 ·obtain ⟨k, i, d, rfl⟩ : ∃ k i d, w = [k, i, d] := by
   match w, h3 with
   | [k, i, d], _ => exact ⟨k, i, d, rfl⟩
  have hk := hw k (by simp)
  have hi := hw i (by simp)
  exact operation_full k i d (by omega) (by omega) (hw d (by simp)) _ _ _ rfl rfl rfl
 ·have := operation_short w h3
  rwa [show opW w = (opNil, false) by
   unfold opW
   split
   ·exact absurd rfl h3
   ·rfl]
theorem concat_as (ls : List (List (List UInt8))) (m : List (List UInt8)) (he : ls.flatten = m) (hp : 0 < m.length) (hL : m.length ≤ 1048576) (hn : ls.length ≤ 1000000) : FnIs Tryz.prog 113 [.d (.arr 1 encWs ls)] [] (.d (.arr 1 strD m)) [] := by
 have := concat_is ls (by rw [he]; exact hp) (by rw [he]; exact hL) hn
 rw [he] at this
 exact this.freeze_out 64 _ rfl (Frz.own rfl) trivial
theorem reader1_is (w : List (List UInt8)) (hw : ∀ x ∈ w, x.length ≤ 1048576) (hl : w.length ≤ 1048573) : FnIs Tryz.prog 111 [.d (.arr 1 strD w)] [] (opR (opW ([49] :: (w ++ [[45]]))).1 (opW ([49] :: (w ++ [[45]]))).2) [] := by
 have hc := concat_as [[[49]], w, [[45]]] ([49] :: (w ++ [[45]])) (by simp) (by simp) (by simp; omega) (by simp)
 have ho := operation_is ([49] :: (w ++ [[45]])) (by
  intro x hx
  rcases List.mem_cons.1 hx with rfl | hx
  ·decide
  ·rcases List.mem_append.1 hx with hx | hx
   ·exact hw x hx
   ·rw [List.mem_singleton.1 hx]; decide)
 refine fnIs_of tab_ok Tryz.func111 rfl rfl rfl ?_;refine sR ?_;refine rN ?_;refine rC ?_;refine nR ?_;refine reg_new (build_slice (s := 1) tab_ok rfl rfl rfl rfl rfl rfl rfl rfl) rfl ?_
 refine rC ?_;refine reg_new (build_slice (s := 1) tab_ok rfl rfl rfl rfl rfl rfl rfl rfl) rfl ?_;refine reg_freeze (env' := [(4, _), (2, _), (5, _), (6, _)]) (h' := [(64, some _), (96, some _)]) 80 _ rfl ⟨⟨_, rfl, Frz.lits1 (enc := strD) [49] rfl rfl⟩, ⟨_, rfl, .refl _⟩, ⟨_, rfl, .refl _⟩, ⟨_, rfl, .refl _⟩, trivial⟩ ⟨⟨rfl, _, rfl, .refl _⟩, ⟨rfl, _, rfl, .refl _⟩, trivial⟩ ?_
 refine reg_freeze (env' := [(6, _), (2, _), (4, _), (5, _)]) (h' := [(64, some _)]) 96 _ rfl ⟨⟨_, rfl, Frz.lits1 (enc := strD) [45] rfl rfl⟩, ⟨_, rfl, .refl _⟩, ⟨_, rfl, .refl _⟩, ⟨_, rfl, .refl _⟩, trivial⟩ ⟨⟨rfl, _, rfl, .refl _⟩, trivial⟩ ?_
 refine reg_new (build_slice (s := 1) tab_ok rfl rfl rfl rfl rfl rfl rfl rfl) rfl ?_;refine reg_freeze (env' := [(7, _), (2, _)]) (h' := [(64, some _)]) 104 _ rfl ⟨⟨_, rfl, Frz.litsN (t := 78) (s := 1) (m := 3) (ex := true) (enc := encWs) [[[49]], w, [[45]]] rfl (fun _ _ => rfl)⟩, ⟨_, rfl, .refl _⟩, trivial⟩ ⟨⟨rfl, _, rfl, .refl _⟩, trivial⟩ ?_
 refine rQ (call_r hc rfl rfl (arg_e arg_nil) (.inl rfl) (fun _ => rfl)) ?_;refine rQ (call_r ho rfl rfl (arg_e arg_nil) (.inl rfl) (fun _ => rfl)) ?_;iterate 2 refine rC ?_
 refine rW ?_;refine rC ?_;refine nS ?_;refine wc_ret ?_
 exact ⟨trivial, _, rfl, [], lf⟩
theorem reader2_is (w : List (List UInt8)) (hw : ∀ x ∈ w, x.length ≤ 1048576) (hl : w.length ≤ 1048573) : FnIs Tryz.prog 114 [.d (.arr 1 strD w)] [] (opR (opW ([50] :: w)).1 (opW ([50] :: w)).2) [] := by
 have hc := concat_as [[[50]], w] ([50] :: w) (by simp) (by simp) (by simp; omega) (by simp)
 have ho := operation_is ([50] :: w) (by
  intro x hx
  simp only [List.mem_cons] at hx
  rcases hx with rfl | hx
  ·decide
  ·exact hw x hx)
 refine fnIs_of tab_ok Tryz.func114 rfl rfl rfl ?_;refine sR ?_;refine rN ?_;refine rC ?_;refine nR ?_;refine reg_new (build_slice (s := 1) tab_ok rfl rfl rfl rfl rfl rfl rfl rfl) rfl ?_
 refine rC ?_;refine reg_freeze (env' := [(4, _), (2, _), (5, _)]) (h' := [(64, some _)]) 80 _ rfl ⟨⟨_, rfl, Frz.lits1 (enc := strD) [50] rfl rfl⟩, ⟨_, rfl, .refl _⟩, ⟨_, rfl, .refl _⟩, trivial⟩ ⟨⟨rfl, _, rfl, .refl _⟩, trivial⟩ ?_
 refine reg_new (build_slice (s := 1) tab_ok rfl rfl rfl rfl rfl rfl rfl rfl) rfl ?_;refine reg_freeze (env' := [(6, _), (2, _)]) (h' := [(64, some _)]) 96 _ rfl ⟨⟨_, rfl, Frz.lits2 (enc := encWs) [[50]] w rfl rfl rfl rfl⟩, ⟨_, rfl, .refl _⟩, trivial⟩ ⟨⟨rfl, _, rfl, .refl _⟩, trivial⟩ ?_
 refine rQ (call_r hc rfl rfl (arg_e arg_nil) (.inl rfl) (fun _ => rfl)) ?_;refine rQ (call_r ho rfl rfl (arg_e arg_nil) (.inl rfl) (fun _ => rfl)) ?_;iterate 2 refine rC ?_
 refine rW ?_;refine rC ?_;refine nS ?_;refine wc_ret ?_
 exact ⟨trivial, _, rfl, [], lf⟩
theorem reader3_is (w : List (List UInt8)) (hw : ∀ x ∈ w, x.length ≤ 1048576) (hl : w.length ≤ 1048573) : FnIs Tryz.prog 115 [.d (.arr 1 strD w)] [] (opR (opW ([51] :: [48] :: [45] :: w)).1 (opW ([51] :: [48] :: [45] :: w)).2) [] := by
 have hc := concat_as [[[51], [48], [45]], w] ([51] :: [48] :: [45] :: w) (by simp) (by simp) (by simp; omega) (by simp)
 have ho := operation_is ([51] :: [48] :: [45] :: w) (by
  intro x hx
  simp only [List.mem_cons] at hx
  rcases hx with rfl | rfl | rfl | hx
  ·decide
  ·decide
  ·decide
  ·exact hw x hx)
 refine fnIs_of tab_ok Tryz.func115 rfl rfl rfl ?_;refine sR ?_;refine rN ?_;refine rC ?_;refine nR ?_;refine reg_new (build_slice (s := 1) tab_ok rfl rfl rfl rfl rfl rfl rfl rfl) rfl ?_
 refine rC ?_;refine reg_freeze (env' := [(4, _), (2, _), (5, _)]) (h' := [(64, some _)]) 80 _ rfl ⟨⟨_, rfl, Frz.litsN (t := 9) (s := 1) (m := 3) (ex := true) (enc := strD) [[51], [48], [45]] rfl (fun _ _ => rfl)⟩, ⟨_, rfl, .refl _⟩, ⟨_, rfl, .refl _⟩, trivial⟩ ⟨⟨rfl, _, rfl, .refl _⟩, trivial⟩ ?_
 refine reg_new (build_slice (s := 1) tab_ok rfl rfl rfl rfl rfl rfl rfl rfl) rfl ?_;refine reg_freeze (env' := [(6, _), (2, _)]) (h' := [(64, some _)]) 96 _ rfl ⟨⟨_, rfl, Frz.lits2 (enc := encWs) [[51], [48], [45]] w rfl rfl rfl rfl⟩, ⟨_, rfl, .refl _⟩, trivial⟩ ⟨⟨rfl, _, rfl, .refl _⟩, trivial⟩ ?_
 refine rQ (call_r hc rfl rfl (arg_e arg_nil) (.inl rfl) (fun _ => rfl)) ?_;refine rQ (call_r ho rfl rfl (arg_e arg_nil) (.inl rfl) (fun _ => rfl)) ?_;iterate 2 refine rC ?_
 refine rW ?_;refine rC ?_;refine nS ?_;refine wc_ret ?_
 exact ⟨trivial, _, rfl, [], lf⟩
end Go.Proofs.YthiijfbcfoifnaaGreatDoor
namespace Go.Eng
open Go.RowKit
section
variable {P : Program} {T : Tab} {env : Env} {h : Upds} {n : Nat}
theorem insert_new {t kt et : TypeId} {κ : Type} [DecidableEq κ] {enc : κ → D} {m r : Nat} {x y z : Operand} {k : κ} {l : List (κ × AV)} {v : AV} (K : KeyTy P kt enc m) (ht : P.underlying t = some (.map kt et))
  (hx : evalA env x = some (.mapr r)) (hy : evalA env y = some (.d (enc k))) (hz : evalA env z = some v) (hr : lookH h r = some (.mo (mapC enc l))) (hf : findC k l 0 = none) :
  StepIs P (.insert t x y z) env h n none [(r, some (.mo (mapC enc (l ++ [(k, v)]))))] := .of_comes fun C G st σ w a o ho hA hd hst hn => by
 have h1 := (ev_sound hst (hA.ev hx)).1
 have h2 := (ev_sound hst (hA.ev hy)).1
 obtain ⟨h3, h4⟩ := ev_sound hst (hA.ev hz)
 have hrow := hA.row _ _ hr
 obtain ⟨b, c, hs, hux⟩ := RelV.mapr.1 h1
 obtain ⟨b', es, hb1, hb2, hb3, hb4⟩ := hst.rows r _ hrow
 rw [hs] at hb2
 cases hb2
 have hl := (mapC_rel l _).1 hb4
 have hin : (mapC enc l).within G := (hst.rowsG r _ hrow).2
 have hfd := K.found h2 hl
 rw [hf] at hfd
 have hst' := hst.writeObj (o' := .map (es.push { key := a.eval y, val := a.eval z, born := es.size }) (es.size + 1)) (row := .mo (mapC enc (l ++ [(k, v)]))) hrow hs hb3 rfl
  ((mapC_within _).2 fun p hp => by
   rcases List.mem_append.1 hp with hp | hp
   ·exact (mapC_within l).1 hin p hp
   ·rw [List.mem_singleton.1 hp]; exact h4)
  (fun w' ht' hh' => ⟨b, es.push { key := a.eval y, val := a.eval z, born := es.size }, fun i e he => by
   rw [Array.getElem?_push] at he
   split at he
   ·rename_i hi; subst hi; cases he; rfl
   ·exact hb1 i e he, hs, by rw [Array.size_push]; exact hh', (mapC_rel _ _).2 (by
    rw [Array.toList_push]
    exact EntRel.snoc (RelV.carry (G := G) ht' trivial h2) (RelV.carry (G := G) ht' h4 h3) l _ (EntRel.mono ht' hin hl))⟩)
 refine ⟨none, _, .skip, undef, { w with heap := w.heap.setIfInBounds b (.map (es.push { key := a.eval y, val := a.eval z, born := es.size }) (es.size + 1)) }, σ, G, ⟨rfl, rfl⟩, ?_, .inr ⟨rfl, rfl⟩, ?_, fun _ h => h, fun _ h => .inl h⟩
 ·have hget : (getObj b).run P w = .ok (.map es es.size) w := by simp [getObj, Sem.run, hb3]
  have hset := run_setObj P w b (.map (es.push { key := a.eval y, val := a.eval z, born := es.size }) (es.size + 1)) hb3
  simp only [execOp, ho, Instr.mapUpdate, hux, Sem.run_bind, run_underlying ht, hget, Result.andThen_ok, K.check h2, hfd, hset, Sem.run_pure]
 ·rw [St.put_upd]
  exact hst'.set hd (v := none) (undef_rel _ _ _) trivial
end
end Go.Eng
namespace Go.Proofs.YthiijfbcfoifnaaGreatDoor
open Go.Eng Go.Plain
set_option maxHeartbeats 4000000
set_option maxRecDepth 20000
attribute [local irreducible] WC RegS RegD SeqQ BlkQ ScoQ RegK CutK Sat SatN FnIs LoopQ StepIs OpIs
abbrev fnA (f : Nat) : AV := .fn (.func f) .anil .anil
def knownL : List (List UInt8 × AV) := [(sRead, fnA 111), (sWrite, fnA 114), (sFlush, fnA 115), (sOp, fnA 112)]
theorem key_str : KeyTy Tryz.prog 9 (fun l : List UInt8 => strD l) 1 := keyTy_string Tryz.underlying9
theorem readers_is : FnIs Tryz.prog 74 [] [] (.mapr 64) [(64, .mo (mapC strD knownL))] := by
 refine fnIs_of tab_ok Tryz.func74 rfl rfl rfl ?_;refine sR ?_;refine rC ?_;refine nR ?_;refine reg_new (make_map) rfl ?_;refine reg_do rfl (insert_new (κ := List UInt8) (enc := strD) (l := knownL.take 0) (k := sRead) key_str Tryz.underlying136 rfl rfl rfl rfl rfl) rfl rfl ?_
 refine reg_do rfl (insert_new (κ := List UInt8) (enc := strD) (l := knownL.take 1) (k := sWrite) key_str Tryz.underlying136 rfl rfl rfl rfl rfl) rfl rfl ?_;refine reg_do rfl (insert_new (κ := List UInt8) (enc := strD) (l := knownL.take 2) (k := sFlush) key_str Tryz.underlying136 rfl rfl rfl rfl rfl) rfl rfl ?_
 refine reg_do rfl (insert_new (κ := List UInt8) (enc := strD) (l := knownL.take 3) (k := sOp) key_str Tryz.underlying136 rfl rfl rfl rfl rfl) rfl rfl ?_;iterate 2 refine rC ?_
 refine nS ?_;refine wc_ret ?_
 exact ⟨trivial, [(64, some 72)], .of rfl rfl rfl rfl rfl ⟨⟨_, rfl, AVLe.of_eq rfl⟩, rfl, trivial⟩ ⟨⟨rfl, rfl, _, rfl, .refl _⟩, trivial⟩⟩
end Go.Proofs.YthiijfbcfoifnaaGreatDoor
namespace Go.Eng
open Go.RowKit
section
variable {P : Program} {T : Tab} {env : Env} {h : Upds} {n : Nat}
theorem slice_clip_arr (hT : TabOk P T) {t e : Nat} {re : TyR} {x i j : Operand} {α : Type} {s : Nat} {enc : α → D} {xs : List α} {k k' : IntKind} (ht : tdesc T t = some (.slice e)) (he : lk T e = some re)
  (hx : evalA env x = some (.d (.arr s enc xs))) (hi : evalA env i = some (.int k xs.length)) (hj : evalA env j = some (.int k' xs.length)) : StepIs P (.slice t x none (some i) (some j)) env h n (some (.d (.arx s enc xs))) [] := .of_comes fun C G st σ w a o ho hA hdst hst hn => by
 obtain ⟨ud, hud, hdd⟩ := tdesc_und hT ht
 cases hdd
 obtain ⟨hx1, _⟩ := ev_sound hst (hA.ev hx)
 obtain ⟨hi1, _⟩ := RelV.sc.1 (ev_sound hst (hA.ev hi)).1
 obtain ⟨hj1, _⟩ := RelV.sc.1 (ev_sound hst (hA.ev hj)).1
 have hsz := (hT e re he).run_size (P := P)
 rcases RelV.arr.1 hx1 with ⟨rfl, hv⟩ | ⟨ad, c, hv, hc1, hc2, f, hf⟩
 ·refine .quiet (u := .slice none 0 0) hst hdst ⟨rfl, rfl⟩ ?_ (RelV.arx.2 (.inl ⟨rfl, _, rfl⟩)) trivial
  simp [execOp, ho, Instr.sliceAt, Instr.slice, hv, hi1, hj1, run_underlying hud, Instr.sliceBounds, Instr.sliceBound, asIntOf, hsz, Sem.run_bind, Sem.run_pure, Result.andThen_ok]
 ·refine .quiet (u := .slice (some ad) xs.length xs.length) hst hdst ⟨rfl, rfl⟩ ?_ (RelV.arx.2 (.inr ⟨ad, rfl, by omega, f, hf⟩)) trivial
  have hle : (xs.length : Int) ≤ (c : Int) := by omega
  simp [execOp, ho, Instr.sliceAt, Instr.slice, hv, hi1, hj1, run_underlying hud, Instr.sliceBounds, Instr.sliceBound, asIntOf, hsz, Sem.run_bind, Sem.run_pure, Result.andThen_ok, hc1, Addr.add_zero']
end
end Go.Eng
namespace Go.Proofs.YthiijfbcfoifnaaGreatDoor
open Go.Eng Go.Plain
set_option maxHeartbeats 4000000
attribute [local irreducible] WC RegS RegD SeqQ BlkQ ScoQ RegK CutK Sat SatN FnIs LoopQ StepIs OpIs
theorem clone_ne (l : List POp) (hp : 0 < l.length) (hlen : l.length ≤ 1048576) : FnIs Tryz.prog 78 [.d (encP l)] [] (.own 64 0 l.length 3 none) [(64, .ds 36 3 false encPOp l)] := by
 refine fnIs_of tab_ok Tryz.func78 rfl rfl rfl ?_;refine sR ?_;refine rC ?_;refine nQ ?_;refine sR ?_;refine rC ?_;refine rQ (eql_nil tab_ok rfl rfl rfl hp) ?_;refine nS ?_
 refine wG ?_;refine kS ?_;refine sR ?_;refine rQ (build_empty tab_ok rfl rfl) ?_;refine rC ?_;refine reg_new (append_empty_arr tab_ok rfl rfl rfl rfl rfl (.inl rfl) rfl hp hlen rfl) rfl ?_
 refine rC ?_;refine nS ?_;refine wc_ret ?_
 exact ⟨trivial, [(64, some 104)], .of rfl rfl rfl rfl rfl ⟨⟨_, rfl, AVLe.of_eq rfl⟩, rfl, trivial⟩ ⟨⟨rfl, rfl, _, rfl, .refl _⟩, trivial⟩⟩
theorem clone_e : FnIs Tryz.prog 78 [.d (encP [])] [] (.d (encP [])) [] := by
 refine FnIs.split_arr ?_ ?_
 ·refine fnIs_of tab_ok Tryz.func78 rfl rfl rfl ?_;refine sR ?_;refine rC ?_;refine nQ ?_;refine sR ?_;refine rC ?_;refine rQ (eql_nn tab_ok rfl rfl rfl) ?_;refine nS ?_
  refine wV ?_;refine sR ?_;refine rC ?_;refine nS ?_;refine wc_ret ?_;refine seq_r ?_
  exact ⟨trivial, [], .of rfl rfl rfl rfl rfl ⟨⟨_, rfl, nil_arr _ _⟩, rfl, trivial⟩ trivial⟩
 ·rintro ⟨a, c⟩
  refine fnIs_of tab_ok Tryz.func78 rfl rfl rfl ?_;refine sR ?_;refine rC ?_;refine nQ ?_;refine sR ?_;refine rC ?_;refine rQ (eql_snil tab_ok rfl rfl rfl) ?_;refine nS ?_
  refine wG ?_;refine kS ?_;refine sR ?_;refine rQ (build_empty tab_ok rfl rfl) ?_;refine rC ?_;refine rQ (append_e_e tab_ok rfl rfl rfl rfl) ?_;refine rC ?_;refine nS ?_
  refine wc_ret ?_
  exact ⟨trivial, [], .of rfl rfl rfl rfl rfl ⟨⟨_, rfl, AVLe.empty_arr _ _⟩, rfl, trivial⟩ trivial⟩
theorem clone_is (l : List POp) (hlen : l.length ≤ 1048576) : FnIs Tryz.prog 78 [.d (encP l)] [] (.d (encP l)) [] := by
 cases l with
 | nil => exact clone_e
 | cons a l => exact (clone_ne (a :: l) (by simp) hlen).freeze_out 64 _ rfl (Frz.own rfl) trivial
abbrev encXP (p : List POp) : D := .arx 3 encPOp p
abbrev encXL (l : List (List POp)) : D := .arr 1 encXP l
theorem clones_ne (l : List (List POp)) (hp : 0 < l.length) (hlen : l.length ≤ 1048576) : FnIs Tryz.prog 80 [.d (encXL l)] [] (.own 64 0 l.length 1 none) [(64, .ds 32 1 false encXP l)] := by
 refine fnIs_of tab_ok Tryz.func80 rfl rfl rfl ?_;refine sR ?_;refine rC ?_;refine nQ ?_;refine sR ?_;refine rC ?_;refine rQ (eql_nil tab_ok rfl rfl rfl hp) ?_;refine nS ?_
 refine wG ?_;refine kS ?_;refine sR ?_;refine rQ (build_empty tab_ok rfl rfl) ?_;refine rC ?_;refine reg_new (append_empty_arr tab_ok rfl rfl rfl rfl rfl (.inl rfl) rfl hp hlen rfl) rfl ?_
 refine rC ?_;refine nS ?_;refine wc_ret ?_
 exact ⟨trivial, [(64, some 104)], .of rfl rfl rfl rfl rfl ⟨⟨_, rfl, AVLe.of_eq rfl⟩, rfl, trivial⟩ ⟨⟨rfl, rfl, _, rfl, .refl _⟩, trivial⟩⟩
theorem clones_e : FnIs Tryz.prog 80 [.d (encXL [])] [] (.d (encXL [])) [] := by
 refine FnIs.split_arr ?_ ?_
 ·refine fnIs_of tab_ok Tryz.func80 rfl rfl rfl ?_;refine sR ?_;refine rC ?_;refine nQ ?_;refine sR ?_;refine rC ?_;refine rQ (eql_nn tab_ok rfl rfl rfl) ?_;refine nS ?_
  refine wV ?_;refine sR ?_;refine rC ?_;refine nS ?_;refine wc_ret ?_;refine seq_r ?_
  exact ⟨trivial, [], .of rfl rfl rfl rfl rfl ⟨⟨_, rfl, nil_arr _ _⟩, rfl, trivial⟩ trivial⟩
 ·rintro ⟨a, c⟩
  refine fnIs_of tab_ok Tryz.func80 rfl rfl rfl ?_;refine sR ?_;refine rC ?_;refine nQ ?_;refine sR ?_;refine rC ?_;refine rQ (eql_snil tab_ok rfl rfl rfl) ?_;refine nS ?_
  refine wG ?_;refine kS ?_;refine sR ?_;refine rQ (build_empty tab_ok rfl rfl) ?_;refine rC ?_;refine rQ (append_e_e tab_ok rfl rfl rfl rfl) ?_;refine rC ?_;refine nS ?_
  refine wc_ret ?_
  exact ⟨trivial, [], .of rfl rfl rfl rfl rfl ⟨⟨_, rfl, AVLe.empty_arr _ _⟩, rfl, trivial⟩ trivial⟩
theorem clones_is (l : List (List POp)) (hlen : l.length ≤ 1048576) : FnIs Tryz.prog 80 [.d (encXL l)] [] (.d (encXL l)) [] := by
 cases l with
 | nil => exact clones_e
 | cons a l => exact (clones_ne (a :: l) (by simp) hlen).freeze_out 64 _ rfl (Frz.own rfl) trivial
theorem clip_is (l : List POp) : FnIs Tryz.prog 77 [.d (encP l)] [] (.d (encXP l)) [] := by
 refine fnIs_of tab_ok Tryz.func77 rfl rfl rfl ?_;refine sR ?_;refine rC ?_;refine nR ?_;iterate 2 refine rC ?_
 refine rQ iE ?_;refine rC ?_;refine rQ iE ?_;refine rQ (slice_clip_arr tab_ok rfl rfl rfl rfl rfl) ?_;refine rC ?_;refine nS ?_;refine wc_ret ?_
 exact ⟨trivial, [], lf⟩
theorem clips_is (l : List (List POp)) : FnIs Tryz.prog 79 [.d (encXL l)] [] (.d (.arx 1 encXP l)) [] := by
 refine fnIs_of tab_ok Tryz.func79 rfl rfl rfl ?_;refine sR ?_;refine rC ?_;refine nR ?_;iterate 2 refine rC ?_
 refine rQ iE ?_;refine rC ?_;refine rQ iE ?_;refine rQ (slice_clip_arr tab_ok rfl rfl rfl rfl rfl) ?_;refine rC ?_;refine nS ?_;refine wc_ret ?_
 exact ⟨trivial, [], lf⟩
end Go.Proofs.YthiijfbcfoifnaaGreatDoor
namespace Go.Eng
open Go.RowKit
def chM (A : AV) : List D → AV
 | [] => .acons A .anil
 | d :: l => .acons (.d d) (chM A l)
theorem chM_at {A : AV} {s : Nat} : ∀ (l : List D), (∀ d ∈ l, d.size = s) → (chM A l).chainAt l.length (l.length * s) = some A
 | [], _ => by simp [chM, AV.chainAt]
 | d :: l, h => by
  have hd := h d (by simp)
  simp only [chM, List.length_cons, AV.chainAt, AV.size, hd]
  have e : Nat.ble s ((l.length + 1) * s) = true := Nat.ble_eq_true_of_le (by rw [Nat.add_mul]; omega)
  rw [e, show (l.length + 1) * s - s = l.length * s by rw [Nat.add_mul]; omega]
  exact chM_at l fun x hx => h x (by simp [hx])
theorem chM_set {A x : AV} : ∀ (l : List D), AV.chainSet x l.length (chM A l) = chM x l
 | [] => rfl
 | d :: l => by
  simp only [chM, List.length_cons, AV.chainSet, chM_set l]
theorem chM_flat {A : AV} (hA : A.flat = true) : ∀ (l : List D), (chM A l).flat = true
 | [] => by simp [chM, AV.flat, hA]
 | d :: l => by simp [chM, AV.flat, chM_flat hA l]
theorem chM_lt {A : AV} {n : Nat} (hA : A.lt n = true) : ∀ (l : List D), (chM A l).lt n = true
 | [] => by simp [chM, AV.lt, hA]
 | _ :: l => by simp [chM, AV.lt, chM_lt hA l]
theorem chM_ren {A : AV} {ρ : Nat → Option Nat} : ∀ (l : List D), (chM A l).ren ρ = chM (A.ren ρ) l
 | [] => rfl
 | d :: l => by simp only [chM, AV.ren, chM_ren l]
theorem rsub_last {t : TypeId} {s : Nat} {ex : Bool} {A : AV} {l : List D} {m i : Nat} (hl : ∀ d ∈ l, d.size = s) (hm : m = l.length + 1) (hi : i = l.length) : RSub (.lits t s m ex (chM A l)) [.idx i s] A := by
 subst hm hi
 refine ⟨rfl, Nat.lt_succ_self _, ?_⟩
 rw [chM_at l hl]
 rfl
theorem rupd_last {t : TypeId} {s : Nat} {ex : Bool} {A y : AV} {l : List D} {m i : Nat} (hl : ∀ d ∈ l, d.size = s) (hm : m = l.length + 1) (hi : i = l.length) (h1 : A.size = y.size) (h2 : A.isAgg = y.isAgg) : RUpd (.lits t s m ex (chM A l)) [.idx i s] y (.lits t s m ex (chM y l)) := by
 subst hm hi
 refine ⟨rfl, Nat.lt_succ_self _, ?_⟩
 rw [chM_at l hl]
 exact ⟨y, ⟨h1, h2, rfl⟩, by rw [chM_set]⟩
theorem chM_cells {σ : Place} {w : World} {X : Nat → Prop} {A : AV} : ∀ (l : List D) (cs : List Value), Rel σ w X (chM A l) false cs ↔ ∃ c1 c2, cs = c1 ++ c2 ∧ Rel σ w X (dsAV l) false c1 ∧ Rel σ w X A false c2
 | [], cs => by
  constructor
  ·rintro ⟨c1, c2, rfl, h1, h2⟩
   rw [show c2 = [] from h2, List.append_nil]
   exact ⟨[], c1, rfl, rfl, h1⟩
  ·rintro ⟨c1, c2, rfl, h1, h2⟩
   rw [show c1 = [] from h1]
   exact ⟨c2, [], by simp, h2, rfl⟩
 | d :: l, cs => by
  constructor
  ·rintro ⟨c1, c2, rfl, h1, h2⟩
   obtain ⟨c3, c4, rfl, h3, h4⟩ := (chM_cells l c2).1 h2
   exact ⟨c1 ++ c3, c4, by simp, ⟨c1, c3, rfl, h1, h3⟩, h4⟩
  ·rintro ⟨c1, c2, rfl, ⟨c3, c4, rfl, h3, h4⟩, h2⟩
   exact ⟨c3, c4 ++ c2, by simp, h3, (chM_cells l _).2 ⟨c4, c2, rfl, h4, h2⟩⟩
theorem dsAV_app {σ : Place} {w : World} {X : Nat → Prop} : ∀ (l m : List D) (cs : List Value), Rel σ w X (dsAV (l ++ m)) false cs ↔ ∃ c1 c2, cs = c1 ++ c2 ∧ Rel σ w X (dsAV l) false c1 ∧ Rel σ w X (dsAV m) false c2
 | [], m, cs => by
  constructor
  ·intro h; exact ⟨[], cs, rfl, rfl, h⟩
  ·rintro ⟨c1, c2, rfl, h1, h2⟩
   rw [show c1 = [] from h1]; exact h2
 | d :: l, m, cs => by
  constructor
  ·rintro ⟨c1, c2, rfl, h1, h2⟩
   obtain ⟨c3, c4, rfl, h3, h4⟩ := (dsAV_app l m c2).1 h2
   exact ⟨c1 ++ c3, c4, by simp, ⟨c1, c3, rfl, h1, h3⟩, h4⟩
  ·rintro ⟨c1, c2, rfl, ⟨c3, c4, rfl, h3, h4⟩, h2⟩
   exact ⟨c3, c4 ++ c2, by simp, h3, (dsAV_app l m _).2 ⟨c4, c2, rfl, h4, h2⟩⟩
theorem dsAV_mk {σ : Place} {w : World} {X : Nat → Prop} {α : Type} {enc : α → D} : ∀ (xs : List α) (f : Nat → List Value), (∀ i (h : i < xs.length), Enc w X (enc xs[i]) (f i)) → Rel σ w X (dsAV (xs.map enc)) false (cat f xs.length)
 | [], f, _ => rfl
 | x :: xs, f, h => by
  rw [List.length_cons, Nat.add_comm xs.length 1, cat_add 1]
  refine ⟨f 0, cat (fun i => f (1 + i)) xs.length, by simp only [cat, List.nil_append], h 0 (by simp), ?_⟩
  exact dsAV_mk xs (fun i => f (1 + i)) fun i hi => by
   show Enc w X (enc xs[i]) (f (1 + i))
   rw [Nat.add_comm 1 i]
   exact h (i + 1) (by simpa using hi)
theorem RowLe.ds_chM {t : TypeId} {s m : Nat} {ex : Bool} {α : Type} {enc : α → D} {xs : List α} {y : α} {z : D} (hm : m = xs.length + 1) (hz : z = enc y) : RowLe (.ds t s ex enc (xs ++ [y])) (.lits t s m ex (chM (.d z) (xs.map enc))) := by
 subst hm hz
 intro σ w X r h
 refine ⟨chM_flat rfl _, ?_⟩
 rcases h with ⟨h0, h1⟩ | ⟨b, c, cur, hb, hex, hh, hsz, hlen, hmax, f, hf, htake⟩
 ·simp at h1
 ·have hn : (xs ++ [y]).length = xs.length + 1 := by simp
  rw [hn] at hlen htake hex
  have hfl : ∀ i, i < xs.length + 1 → (f i).length = s := fun i hi => (hf i (by rw [hn]; exact hi)).2
  refine .inr ⟨b, c, cur, cat f (xs.length + 1), hb, hex, hh, hsz, hlen, hmax, cat_len _ hfl, ?_, htake⟩
  have := dsAV_mk (σ := σ) (w := w) (X := X) (xs ++ [y]) f fun i hi => (hf i hi).1
  rw [hn, List.map_append] at this
  obtain ⟨c1, c2, e, h1, h2⟩ := (dsAV_app _ _ _).1 this
  rw [e]
  refine (chM_cells _ _).2 ⟨c1, c2, rfl, h1, ?_⟩
  obtain ⟨c3, c4, rfl, h3, h4⟩ := h2
  rw [show c4 = [] from h4, List.append_nil]
  exact h3
theorem FrzR.last {r t te s s2 m : Nat} {ex ex2 : Bool} {α β : Type} {enc : α → D} {enc2 : β → D} {xs : List α} {y : α} {ys : List β} {len : Nat} {l : List D} (hl : len = ys.length) (hy : enc y = .arr s2 enc2 ys) (hm : m = xs.length + 1) (hs : ∀ x, (enc x).size = s) (hmap : l = xs.map enc) :
  FrzR r (.ds te s2 ex2 enc2 ys) (.lits t s m ex (chM (.own r 0 len s2 none) l)) (.ds t s ex enc (xs ++ [y])) := by
 subst hm hmap
 refine ⟨fun G h => trivial, fun σ w X X' q hx hn hr hq => ?_⟩
 have hn1 : (xs ++ [y]).length = xs.length + 1 := by simp
 rcases hq with ⟨_, ⟨_, h1⟩ | ⟨b', c', cur, cs', hb', hex, hh, hsz, hlen, hmax, hcl, hrel, htake⟩⟩
 ·omega
 ·obtain ⟨c1, c2, rfl, h1, h2⟩ := (chM_cells _ _).1 hrel
  have h3 := (Frz.own (te := te) (ex := ex2) (cap := none) hl).2.2.2 σ w X X' hx hn hr c2 h2
  rw [← hy] at h3
  obtain ⟨f, hf, rfl⟩ := dsAV_rel xs _ h1
  have hfl : ∀ i, i < xs.length → (f i).length = s := fun i hi => by rw [← hs xs[i]]; exact Enc.len _ _ (hf i hi)
  have hc2 : c2.length = s := by rw [← hs y]; exact Enc.len _ _ h3
  refine .inr ⟨b', c', cur, hb', by rw [hn1]; exact hex, hh, hsz, by rw [hn1]; exact hlen, hmax, fun i => if i < xs.length then f i else c2, fun i hi => ?_, ?_⟩
  ·by_cases hi2 : i < xs.length
   ·simp only [if_pos hi2, List.getElem_append_left hi2]
    exact ⟨Enc.sub hx _ _ (hf i hi2), hfl i hi2⟩
   ·have : i = xs.length := by rw [hn1] at hi; omega
    subst this
    simp only [if_neg hi2, List.getElem_concat_length]
    exact ⟨h3, hc2⟩
  ·rw [hn1, htake]
   have e : cat (fun i => if i < xs.length then f i else c2) xs.length = cat f xs.length := cat_congr _ fun i hi => by simp only [if_pos hi]
   simp only [cat, Nat.lt_irrefl, if_false, e]
end Go.Eng
namespace Go.Proofs.YthiijfbcfoifnaaGreatDoor
open Go.Eng Go.Plain
set_option maxHeartbeats 4000000
set_option maxRecDepth 20000
attribute [local irreducible] WC RegS RegD SeqQ BlkQ ScoQ RegK CutK Sat SatN FnIs LoopQ StepIs OpIs
def encO : Option (List POp) → D
 | none => .sc nil_
 | some p => encP p
theorem encO_size (o : Option (List POp)) : (encO o).size = 1 := by cases o <;> rfl
theorem mapO (l : List (List POp)) : l.map encP = (l.map some).map encO := by simp [encO]
abbrev rowL (p : List POp) (l : List (List POp)) (m r : Nat) : Row := .lits 32 1 m false (chM (.own r 0 p.length 3 none) (l.map encP))
abbrev rowP (p : List POp) : Row := .ds 36 3 false encPOp p
abbrev S0 : List (Nat × Row) := [(0, .box 27 (.own 3 0 0 1 none)), (1, .box 136 (.mapr 2)), (2, .mo (mapC strD knownL)), (3, .ds 32 1 false encO [])]
abbrev S1 (a b : Nat) (l : List (List POp)) (p : List POp) : List (Nat × Row) := [(0, .box 27 (.own a 0 (l.length + 1) 1 none)), (1, .box 136 (.mapr 2)), (2, .mo (mapC strD knownL)), (a, rowL p l (l.length + 1) b), (b, rowP p)]
theorem leaf_nil {b : Nat} {l : List (List POp)} {m : Nat} {ρ : Nat → Option Nat} {xs : List (Option (List POp))} (hm : m = l.length + 1) (hx : xs = l.map some) (hρ : ρ b = none) : RowLe (.ds 32 1 false encO (xs ++ [none])) (Row.ren ρ (rowL [] l m b)) := by
 subst hx
 show RowLe _ (.lits _ _ _ _ (AV.ren ρ (chM _ _)))
 rw [chM_ren, mapO]
 have e : AV.ren ρ (.own b 0 ([] : List POp).length 3 none) = .d (.sc nil_) := by simp [AV.ren, hρ]
 rw [e]
 exact RowLe.ds_chM (by simpa using hm) rfl
theorem add_client0 (t : List UInt8) (ht : t = sClient) : FnIs Tryz.prog 75 [.d (strD t), .ptr 0 [], .ptr 1 []] S0 (.d (i6 0)) (S1 64 65 [] []) := by
 have h0 : decide (t = sClient) = true := dT ht
 refine fnIs_of tab_ok Tryz.func75 rfl rfl rfl ?_;refine sR ?_;refine rC ?_;refine nQ ?_;refine sR ?_;refine rC ?_;refine rQ (eql_s (a := t) (b := sClient) tab_ok rfl rfl rfl) ?_
 refine nS ?_;refine wT ?_;refine sR ?_;refine rQ iM ?_;refine reg_new (build_slice (s := 1) tab_ok rfl rfl rfl rfl rfl rfl rfl rfl) rfl ?_;refine reg_new2 (append_one (xs := ([] : List (Option (List POp)))) (s := 1) (enc := encO) tab_ok none rfl rfl rfl rfl rfl rfl rfl rfl rfl (by decide) rfl) rfl ?_
 refine rW ?_;refine nQ ?_;refine sR ?_;refine rQ iM ?_;refine rQ (len_own tab_ok rfl rfl) ?_;refine rC ?_;refine nS ?_;refine wG ?_;refine kS ?_;refine sR ?_;refine rC ?_
 refine nS ?_;refine wc_ret ?_;refine seq_r ?_
 exact ⟨trivial, [(64, some 104), (65, none)], .of rfl rfl rfl rfl rfl ⟨⟨_, rfl, AVLe.of_eq rfl⟩, rfl, trivial⟩ ⟨⟨rfl, rfl, _, rfl, .refl _⟩, ⟨rfl, rfl, _, rfl, .refl _⟩, ⟨rfl, rfl, _, rfl, .refl _⟩, ⟨rfl, rfl, _, rfl, leaf_nil (l := []) (xs := []) rfl rfl rfl⟩, ⟨rfl, rfl, rfl⟩, trivial⟩⟩
theorem add_client1 (t : List UInt8) (ht : t = sClient) (l : List (List POp)) (p : List POp) (hl : l.length ≤ 1000) : FnIs Tryz.prog 75 [.d (strD t), .ptr 0 [], .ptr 1 []] (S1 3 4 l p) (.d (i6 (if 8 < l.length + 2 then 3 else 0))) (S1 64 65 (l ++ [p]) []) := by
 have h0 : decide (t = sClient) = true := dT ht
 have hL : l.length + 1 = (l.map some ++ [some p]).length := by simp
 have hlen : (l.map some ++ [some p]).length + [(none : Option (List POp))].length ≤ 1048576 := by simp; omega
 have e1 : (l.map some ++ [some p]).length + [(none : Option (List POp))].length = (l ++ [p]).length + 1 := by simp
 have e2 : l.map some ++ [some p] = (l ++ [p]).map some := by simp
 refine fnIs_of tab_ok Tryz.func75 rfl rfl rfl ?_;refine sR ?_;refine rC ?_;refine nQ ?_;refine sR ?_;refine rC ?_;refine rQ (eql_s (a := t) (b := sClient) tab_ok rfl rfl rfl) ?_
 refine nS ?_;refine wT ?_;refine sR ?_;refine rQ iM ?_;refine reg_new (build_slice (s := 1) tab_ok rfl rfl rfl rfl rfl rfl rfl rfl) rfl ?_;refine reg_freeze (env' := [(12, _), (13, _), (0, _), (1, _), (2, _)]) (h' := [(0, some _), (1, some _), (2, some _), (96, some _), (3, some _)]) 4 _ rfl ⟨⟨_, rfl, .refl _⟩, ⟨_, rfl, .refl _⟩, ⟨_, rfl, .refl _⟩, ⟨_, rfl, .refl _⟩, ⟨_, rfl, .refl _⟩, trivial⟩ ⟨⟨rfl, _, rfl, .refl _⟩, ⟨rfl, _, rfl, .refl _⟩, ⟨rfl, _, rfl, .refl _⟩, ⟨rfl, _, rfl, .refl _⟩, ⟨rfl, _, rfl, FrzR.last (enc := encO) (xs := l.map some) (y := some p) rfl rfl (by simp) encO_size (mapO l)⟩, trivial⟩ ?_
 by_cases hg : 8 < l.length + 2
 ·have hgt : decide (8 < (((l.map some ++ [some p]).length + [(none : Option (List POp))].length : Nat) : Int)) = true := dT (by simp; omega)
  rw [if_pos hg]
  refine reg_new2 (append_litsL (α := Option (List POp)) (s := 1) (enc := encO) (xs := l.map some ++ [some p]) tab_ok [none] rfl rfl rfl rfl rfl hL rfl rfl rfl rfl (fun _ _ => encO_size _) (by decide) hlen rfl) rfl ?_
  refine rW ?_;refine nQ ?_;refine sR ?_;refine rQ iM ?_;refine rQ (len_own tab_ok rfl rfl) ?_;refine rC ?_;refine nS ?_;refine wT ?_;refine sR ?_;refine rC ?_;refine nS ?_
  refine wc_ret ?_;iterate 2 refine seq_r ?_
  rw [e1, e2]
  exact ⟨trivial, [(64, some 104), (65, none)], .of rfl rfl rfl rfl rfl ⟨⟨_, rfl, AVLe.of_eq rfl⟩, rfl, trivial⟩ ⟨⟨rfl, rfl, _, rfl, .refl _⟩, ⟨rfl, rfl, _, rfl, .refl _⟩, ⟨rfl, rfl, _, rfl, .refl _⟩, ⟨rfl, chM_lt rfl _, _, rfl, leaf_nil rfl rfl rfl⟩, ⟨rfl, rfl, rfl⟩, trivial⟩⟩
 ·have hgt : decide (8 < (((l.map some ++ [some p]).length + [(none : Option (List POp))].length : Nat) : Int)) = false := dF (by simp; omega)
  rw [if_neg hg]
  refine reg_new2 (append_litsL (α := Option (List POp)) (s := 1) (enc := encO) (xs := l.map some ++ [some p]) tab_ok [none] rfl rfl rfl rfl rfl hL rfl rfl rfl rfl (fun _ _ => encO_size _) (by decide) hlen rfl) rfl ?_
  refine rW ?_;refine nQ ?_;refine sR ?_;refine rQ iM ?_;refine rQ (len_own tab_ok rfl rfl) ?_;refine rC ?_;refine nS ?_;refine wF ?_;refine kS ?_;refine sR ?_;refine rC ?_
  refine nS ?_;refine wc_ret ?_;refine seq_r ?_
  rw [e1, e2]
  exact ⟨trivial, [(64, some 104), (65, none)], .of rfl rfl rfl rfl rfl ⟨⟨_, rfl, AVLe.of_eq rfl⟩, rfl, trivial⟩ ⟨⟨rfl, rfl, _, rfl, .refl _⟩, ⟨rfl, rfl, _, rfl, .refl _⟩, ⟨rfl, rfl, _, rfl, .refl _⟩, ⟨rfl, chM_lt rfl _, _, rfl, leaf_nil rfl rfl rfl⟩, ⟨rfl, rfl, rfl⟩, trivial⟩⟩
end Go.Proofs.YthiijfbcfoifnaaGreatDoor
namespace Go.Plain
open Go.Eng Go.Lib
theorem split_mem_le : ∀ (l : List UInt8) (c : UInt8) (w : List UInt8), w ∈ splitL l c → w.length ≤ l.length
 | [], _, w, h => by simp [splitL] at h; subst h; simp
 | b :: l, c, w, h => by
  simp only [splitL] at h
  split at h
  ·rcases List.mem_cons.1 h with rfl | h
   ·simp
   ·have := split_mem_le l c w h
    simp only [List.length_cons]; omega
  ·split at h
   ·rw [List.mem_singleton.1 h]; simp
   ·rename_i w' ws hs
    rcases List.mem_cons.1 h with rfl | h
    ·have := split_mem_le l c w' (by rw [hs]; simp)
     simp only [List.length_cons]; omega
    ·have := split_mem_le l c w (by rw [hs]; simp [h])
     simp only [List.length_cons]; omega
theorem pairs_len : ∀ (s t : List UInt8), pairsO s = some t → s.length = 2 * t.length
 | [], t, h => by cases h; rfl
 | [_], _, h => by cases h
 | a :: b :: l, t, h => by
  simp only [pairsO] at h
  split at h
  ·rename_i x y r _ _ hr
   cases h
   have := pairs_len l r hr
   simp only [List.length_cons]; omega
  ·cases h
theorem unhex_len {s t : List UInt8} (h : unhexP s = some t) : 2 * t.length ≤ s.length := by
 rw [unhexP] at h
 split at h
 ·cases h; simp
 ·split at h
  ·cases h
  ·rw [pairs_len _ _ h]; exact Nat.le_refl _
theorem split_head {t a : List UInt8} {c : UInt8} {r : List (List UInt8)} (h : splitL t c = a :: r) : a.length + r.length ≤ t.length := by
 rw [split_cut] at h
 cases hc : cutL t c with
 | none => rw [hc] at h; simp only at h; cases h; simp
 | some pq =>
  obtain ⟨p, q⟩ := pq
  rw [hc] at h
  simp only [List.cons.injEq] at h
  obtain ⟨rfl, rfl⟩ := h
  have := splitL_len q c
  rw [(cutL_some hc).1]
  simp
  omega
end Go.Plain
namespace Go.Proofs.YthiijfbcfoifnaaGreatDoor
open Go.Eng Go.Plain
set_option maxHeartbeats 4000000
set_option maxRecDepth 20000
attribute [local irreducible] WC RegS RegD SeqQ BlkQ ScoQ RegK CutK Sat SatN FnIs LoopQ StepIs OpIs
theorem fn_zero : ZeroIs Tryz.prog 138 (.sc .nilFunc) := zero_of (by kernel_rfl) rfl
theorem leaf_keep {b b' : Nat} {p : List POp} {l : List (List POp)} {m m' : Nat} {ρ : Nat → Option Nat} (hm : m = m') (hρ : ρ b' = some b) : RowLe (rowL p l m b) (Row.ren ρ (rowL p l m' b')) := by
 subst hm
 show RowLe _ (.lits _ _ _ _ (AV.ren ρ (chM _ _)))
 rw [chM_ren]
 have e : AV.ren ρ (.own b' 0 p.length 3 none) = .own b 0 p.length 3 none := by simp [AV.ren, hρ]
 rw [e]
 exact .refl _
theorem add_unk0 (t a : List UInt8) (r : List (List UInt8)) (ht : t ≠ sClient) (hl : t.length ≤ 1048576) (hsp : splitL t 32 = a :: r) (hf : findC a knownL 0 = none) : FnIs Tryz.prog 75 [.d (strD t), .ptr 0 [], .ptr 1 []] S0 (.d (i6 5)) S0 := by
 have h0 : decide (t = sClient) = false := dF ht
 have hs := split_is (l := t) (c := 32) (by omega)
 rw [hsp] at hs
 have g0 : (a :: r)[((0 : Int)).toNat]? = some a := rfl
 refine fnIs_of tab_ok Tryz.func75 rfl rfl rfl ?_;refine sR ?_;refine rC ?_;refine nQ ?_;refine sR ?_;refine rC ?_;refine rQ (eql_s (a := t) (b := sClient) tab_ok rfl rfl rfl) ?_
 refine nS ?_;refine wF ?_;refine kS ?_;refine sR ?_;refine rC ?_;refine rQ (call_r hs rfl rfl (arg_e (arg_e arg_nil)) (.inl rfl) (fun _ => rfl)) ?_;refine rC ?_
 refine nQ ?_;refine wc_draw (by kernel_rfl) ?_;refine dQ [2] [1] iM ?_;refine dC [5] [] ?_;refine dQ [22] [] iA ?_;refine dQ [23] [] iL ?_;refine dQ [21, 24] [2] (lookup2_none (κ := List UInt8) (enc := strD) (l := knownL) (k := a) key_str Tryz.underlying136 fn_zero rfl rfl rfl hf) ?_
 refine dC [25] [] ?_;iterate 2 refine dC [20] [] ?_
 refine dC [26] [] ?_;refine dC [27] [] ?_;refine dreg_end (by kernel_rfl) ?_;refine seq_n ?_;refine qR ?_;iterate 3 refine rC ?_
 iterate 3 refine rT ?_
 refine rQ iU ?_;refine nS ?_;refine wV ?_;refine sR ?_;refine rC ?_;refine nS ?_;refine wc_ret ?_;refine seq_r ?_
 exact ⟨trivial, [], .of rfl rfl rfl rfl rfl ⟨⟨_, rfl, AVLe.of_eq rfl⟩, rfl, trivial⟩ ⟨⟨rfl, rfl, _, rfl, .refl _⟩, ⟨rfl, rfl, _, rfl, .refl _⟩, ⟨rfl, rfl, _, rfl, .refl _⟩, ⟨rfl, rfl, _, rfl, .refl _⟩, trivial⟩⟩
theorem add_unk1 (t a : List UInt8) (r : List (List UInt8)) (ht : t ≠ sClient) (hl : t.length ≤ 1048576) (hsp : splitL t 32 = a :: r) (hf : findC a knownL 0 = none) (l : List (List POp)) (p : List POp) : FnIs Tryz.prog 75 [.d (strD t), .ptr 0 [], .ptr 1 []] (S1 3 4 l p) (.d (i6 5)) (S1 3 4 l p) := by
 have h0 : decide (t = sClient) = false := dF ht
 have hs := split_is (l := t) (c := 32) (by omega)
 rw [hsp] at hs
 have g0 : (a :: r)[((0 : Int)).toNat]? = some a := rfl
 refine fnIs_of tab_ok Tryz.func75 rfl rfl rfl ?_;refine sR ?_;refine rC ?_;refine nQ ?_;refine sR ?_;refine rC ?_;refine rQ (eql_s (a := t) (b := sClient) tab_ok rfl rfl rfl) ?_
 refine nS ?_;refine wF ?_;refine kS ?_;refine sR ?_;refine rC ?_;refine rQ (call_r hs rfl rfl (arg_e (arg_e arg_nil)) (.inl rfl) (fun _ => rfl)) ?_;refine rC ?_
 refine nQ ?_;refine wc_draw (by kernel_rfl) ?_;refine dQ [2] [1] iM ?_;refine dC [5] [] ?_;refine dQ [22] [] iA ?_;refine dQ [23] [] iL ?_;refine dQ [21, 24] [2] (lookup2_none (κ := List UInt8) (enc := strD) (l := knownL) (k := a) key_str Tryz.underlying136 fn_zero rfl rfl rfl hf) ?_
 refine dC [25] [] ?_;iterate 2 refine dC [20] [] ?_
 refine dC [26] [] ?_;refine dC [27] [] ?_;refine dreg_end (by kernel_rfl) ?_;refine seq_n ?_;refine qR ?_;iterate 3 refine rC ?_
 iterate 3 refine rT ?_
 refine rQ iU ?_;refine nS ?_;refine wV ?_;refine sR ?_;refine rC ?_;refine nS ?_;refine wc_ret ?_;refine seq_r ?_
 exact ⟨trivial, [], .of rfl rfl rfl rfl rfl ⟨⟨_, rfl, AVLe.of_eq rfl⟩, rfl, trivial⟩ ⟨⟨rfl, rfl, _, rfl, .refl _⟩, ⟨rfl, rfl, _, rfl, .refl _⟩, ⟨rfl, rfl, _, rfl, .refl _⟩, ⟨rfl, chM_lt rfl _, _, rfl, leaf_keep rfl rfl⟩, ⟨rfl, rfl, _, rfl, .refl _⟩, trivial⟩⟩
theorem add_known0 (t a : List UInt8) (r : List (List UInt8)) (ht : t ≠ sClient) (hl : t.length ≤ 1048576) (hsp : splitL t 32 = a :: r) (f j : Nat) (hf : findC a knownL 0 = some (j, fnA f)) : FnIs Tryz.prog 75 [.d (strD t), .ptr 0 [], .ptr 1 []] S0 (.d (i6 5)) S0 := by
 have h0 : decide (t = sClient) = false := dF ht
 have hs := split_is (l := t) (c := 32) (by omega)
 rw [hsp] at hs
 have g0 : (a :: r)[((0 : Int)).toNat]? = some a := rfl
 refine fnIs_of tab_ok Tryz.func75 rfl rfl rfl ?_;refine sR ?_;refine rC ?_;refine nQ ?_;refine sR ?_;refine rC ?_;refine rQ (eql_s (a := t) (b := sClient) tab_ok rfl rfl rfl) ?_
 refine nS ?_;refine wF ?_;refine kS ?_;refine sR ?_;refine rC ?_;refine rQ (call_r hs rfl rfl (arg_e (arg_e arg_nil)) (.inl rfl) (fun _ => rfl)) ?_;refine rC ?_
 refine nQ ?_;refine wc_draw (by kernel_rfl) ?_;refine dQ [2] [1] iM ?_;refine dC [5] [] ?_;refine dQ [22] [] iA ?_;refine dQ [23] [] iL ?_;refine dQ [21, 24] [2] (lookup2_some (κ := List UInt8) (enc := strD) (l := knownL) (k := a) key_str Tryz.underlying136 rfl rfl rfl hf) ?_
 refine dC [25] [] ?_;iterate 2 refine dC [20] [] ?_
 refine dC [26] [] ?_;refine dC [27] [] ?_;refine dreg_end (by kernel_rfl) ?_;refine seq_n ?_;refine qR ?_;iterate 3 refine rC ?_
 refine rP ?_;refine rQ iM ?_;refine rP ?_;refine rQ (len_own tab_ok rfl rfl) ?_;refine rP ?_;refine rC ?_;refine rQ iG ?_;refine nS ?_;refine wV ?_;refine sR ?_
 refine rC ?_;refine nS ?_;refine wc_ret ?_;refine seq_r ?_
 exact ⟨trivial, [], .of rfl rfl rfl rfl rfl ⟨⟨_, rfl, AVLe.of_eq rfl⟩, rfl, trivial⟩ ⟨⟨rfl, rfl, _, rfl, .refl _⟩, ⟨rfl, rfl, _, rfl, .refl _⟩, ⟨rfl, rfl, _, rfl, .refl _⟩, ⟨rfl, rfl, _, rfl, .refl _⟩, trivial⟩⟩
theorem add_bad1 (t a : List UInt8) (r : List (List UInt8)) (ht : t ≠ sClient) (hl : t.length ≤ 1048576) (hsp : splitL t 32 = a :: r) (f j : Nat) (hf : findC a knownL 0 = some (j, fnA f)) (o : POp) (hread : FnIs Tryz.prog f [.d (.arr 1 strD r)] [] (opR o false) []) (l : List (List POp)) (p : List POp) (hll : l.length ≤ 1000) : FnIs Tryz.prog 75 [.d (strD t), .ptr 0 [], .ptr 1 []] (S1 3 4 l p) (.d (i6 5)) (S1 3 4 l p) := by
 have h0 : decide (t = sClient) = false := dF ht
 have hs := split_is (l := t) (c := 32) (by omega)
 rw [hsp] at hs
 have g0 : (a :: r)[((0 : Int)).toNat]? = some a := rfl
 have hz : decide (((l.length + 1 : Nat) : Int) = 0) = false := dF (by omega)
 refine fnIs_of tab_ok Tryz.func75 rfl rfl rfl ?_;refine sR ?_;refine rC ?_;refine nQ ?_;refine sR ?_;refine rC ?_;refine rQ (eql_s (a := t) (b := sClient) tab_ok rfl rfl rfl) ?_
 refine nS ?_;refine wF ?_;refine kS ?_;refine sR ?_;refine rC ?_;refine rQ (call_r hs rfl rfl (arg_e (arg_e arg_nil)) (.inl rfl) (fun _ => rfl)) ?_;refine rC ?_
 refine nQ ?_;refine wc_draw (by kernel_rfl) ?_;refine dQ [2] [1] iM ?_;refine dC [5] [] ?_;refine dQ [22] [] iA ?_;refine dQ [23] [] iL ?_;refine dQ [21, 24] [2] (lookup2_some (κ := List UInt8) (enc := strD) (l := knownL) (k := a) key_str Tryz.underlying136 rfl rfl rfl hf) ?_
 refine dC [25] [] ?_;iterate 2 refine dC [20] [] ?_
 refine dC [26] [] ?_;refine dC [27] [] ?_;refine dreg_end (by kernel_rfl) ?_;refine seq_n ?_;refine qR ?_;iterate 3 refine rC ?_
 refine rP ?_;refine rQ iM ?_;refine rP ?_;refine rQ (len_own tab_ok rfl rfl) ?_;refine rP ?_;refine rC ?_;refine rQ iG ?_;refine nS ?_;refine wG ?_;refine kS ?_
 refine sR ?_;iterate 2 refine rC ?_
 refine rQ (slice_from (m := 1) tab_ok rfl rfl rfl rfl rfl (Nat.succ_le_succ (Nat.zero_le _))) ?_;refine rQ (call_r hread rfl rfl (arg_e arg_nil) (.inl rfl) (fun _ => rfl)) ?_
 iterate 3 refine rC ?_
 refine rN ?_;refine rW ?_;refine rC ?_;refine nQ ?_;refine sR ?_;iterate 3 refine rC ?_
 iterate 4 refine rT ?_
 refine rQ iU ?_;refine nS ?_;refine wV ?_;refine sR ?_;refine rC ?_;refine nS ?_;refine wc_ret ?_;refine seq_r ?_
 exact ⟨trivial, [], .of rfl rfl rfl rfl rfl ⟨⟨_, rfl, AVLe.of_eq rfl⟩, rfl, trivial⟩ ⟨⟨rfl, rfl, _, rfl, .refl _⟩, ⟨rfl, rfl, _, rfl, .refl _⟩, ⟨rfl, rfl, _, rfl, .refl _⟩, ⟨rfl, chM_lt rfl _, _, rfl, leaf_keep rfl rfl⟩, ⟨rfl, rfl, _, rfl, .refl _⟩, trivial⟩⟩
theorem add_ne1 (t a : List UInt8) (r : List (List UInt8)) (ht : t ≠ sClient) (hl : t.length ≤ 1048576) (hsp : splitL t 32 = a :: r) (f j : Nat) (hf : findC a knownL 0 = some (j, fnA f)) (o : POp) (hok : o.Ok) (hdl : o.data.length ≤ 524288) (hread : FnIs Tryz.prog f [.d (.arr 1 strD r)] [] (opR o true) []) (l : List (List POp)) (p : List POp) (hll : l.length ≤ 1000) (hne : lineP o ≠ t) : FnIs Tryz.prog 75 [.d (strD t), .ptr 0 [], .ptr 1 []] (S1 3 4 l p) (.d (i6 5)) (S1 3 4 l p) := by
 have h0 : decide (t = sClient) = false := dF ht
 have hs := split_is (l := t) (c := 32) (by omega)
 rw [hsp] at hs
 have g0 : (a :: r)[((0 : Int)).toNat]? = some a := rfl
 have hz : decide (((l.length + 1 : Nat) : Int) = 0) = false := dF (by omega)
 have hline := line_is o hok hdl
 have hn : (!decide (lineP o = t)) = true := by rw [dF hne]; rfl
 refine fnIs_of tab_ok Tryz.func75 rfl rfl rfl ?_;refine sR ?_;refine rC ?_;refine nQ ?_;refine sR ?_;refine rC ?_;refine rQ (eql_s (a := t) (b := sClient) tab_ok rfl rfl rfl) ?_
 refine nS ?_;refine wF ?_;refine kS ?_;refine sR ?_;refine rC ?_;refine rQ (call_r hs rfl rfl (arg_e (arg_e arg_nil)) (.inl rfl) (fun _ => rfl)) ?_;refine rC ?_
 refine nQ ?_;refine wc_draw (by kernel_rfl) ?_;refine dQ [2] [1] iM ?_;refine dC [5] [] ?_;refine dQ [22] [] iA ?_;refine dQ [23] [] iL ?_;refine dQ [21, 24] [2] (lookup2_some (κ := List UInt8) (enc := strD) (l := knownL) (k := a) key_str Tryz.underlying136 rfl rfl rfl hf) ?_
 refine dC [25] [] ?_;iterate 2 refine dC [20] [] ?_
 refine dC [26] [] ?_;refine dC [27] [] ?_;refine dreg_end (by kernel_rfl) ?_;refine seq_n ?_;refine qR ?_;iterate 3 refine rC ?_
 refine rP ?_;refine rQ iM ?_;refine rP ?_;refine rQ (len_own tab_ok rfl rfl) ?_;refine rP ?_;refine rC ?_;refine rQ iG ?_;refine nS ?_;refine wG ?_;refine kS ?_
 refine sR ?_;iterate 2 refine rC ?_
 refine rQ (slice_from (m := 1) tab_ok rfl rfl rfl rfl rfl (Nat.succ_le_succ (Nat.zero_le _))) ?_;refine rQ (call_r hread rfl rfl (arg_e arg_nil) (.inl rfl) (fun _ => rfl)) ?_
 iterate 3 refine rC ?_
 refine rN ?_;refine rW ?_;refine rC ?_;refine nQ ?_;refine sR ?_;iterate 3 refine rC ?_
 refine rP ?_;refine rQ iM ?_;refine rP ?_;refine rQ (call_r hline rfl rfl (arg_e arg_nil) (.inl rfl) (fun _ => rfl)) ?_;refine rP ?_;refine rC ?_;refine rP ?_;refine rQ (neq_s (a := lineP o) (b := t) tab_ok rfl rfl rfl) ?_
 refine rQ iG ?_;refine nS ?_;refine wT ?_;refine sR ?_;refine rC ?_;refine nS ?_;refine wc_ret ?_;refine seq_r ?_
 exact ⟨trivial, [], .of rfl rfl rfl rfl rfl ⟨⟨_, rfl, AVLe.of_eq rfl⟩, rfl, trivial⟩ ⟨⟨rfl, rfl, _, rfl, .refl _⟩, ⟨rfl, rfl, _, rfl, .refl _⟩, ⟨rfl, rfl, _, rfl, .refl _⟩, ⟨rfl, chM_lt rfl _, _, rfl, leaf_keep rfl rfl⟩, ⟨rfl, rfl, _, rfl, .refl _⟩, trivial⟩⟩
theorem leaf_len {b b' n : Nat} {p : List POp} {l : List (List POp)} {m m' : Nat} {ρ : Nat → Option Nat} (hm : m = m') (hn : n = p.length) (hρ : ρ b' = some b) : RowLe (.lits 32 1 m false (chM (.own b 0 n 3 none) (l.map encP))) (Row.ren ρ (rowL p l m' b')) := by
 subst hn
 exact leaf_keep hm hρ
theorem add_ok1 (t a : List UInt8) (r : List (List UInt8)) (ht : t ≠ sClient) (hl : t.length ≤ 1048576) (hsp : splitL t 32 = a :: r) (f j : Nat) (hf : findC a knownL 0 = some (j, fnA f)) (o : POp) (hok : o.Ok) (hdl : o.data.length ≤ 524288) (hread : FnIs Tryz.prog f [.d (.arr 1 strD r)] [] (opR o true) []) (l : List (List POp)) (p : List POp) (hll : l.length ≤ 1000) (hpp : p.length ≤ 1000) (heq : lineP o = t) (b1 b2 : Bool) (hb1 : decide (64 < ((p.length + 1 : Nat) : Int)) = b1) (hb2 : decide (64 < ((byI o.data).length : Int)) = b2) : FnIs Tryz.prog 75 [.d (strD t), .ptr 0 [], .ptr 1 []] (S1 3 4 l p) (.d (i6 (if b1 || b2 then 3 else 0))) (S1 3 65 l (p ++ [o])) := by
 have h0 : decide (t = sClient) = false := dF ht
 have hs := split_is (l := t) (c := 32) (by omega)
 rw [hsp] at hs
 have g0 : (a :: r)[((0 : Int)).toNat]? = some a := rfl
 have hz : decide (((l.length + 1 : Nat) : Int) = 0) = false := dF (by omega)
 have hline := line_is o hok hdl
 have hn : (!decide (lineP o = t)) = false := by rw [dT heq]; rfl
 have hw : IntKind.i64.wrap (((l.length + 1 : Nat) : Int) - 1) = (l.length : Int) := by rw [wrap_i64 (by omega) (by omega)]; omega
 have hsz : ∀ d ∈ l.map encP, d.size = 1 := fun d hd => by
  obtain ⟨x, _, rfl⟩ := List.mem_map.1 hd
  rfl
 have hmm : l.length + 1 = (l.map encP).length + 1 := by simp
 have hml : (l.map encP).length = l.length := by simp
 have hpn : p.length + 1 = (p ++ [o]).length := by simp
 have hpl : p.length + 1 ≤ 1048576 := by omega
 refine fnIs_of tab_ok Tryz.func75 rfl rfl rfl ?_
 cases b1 <;> cases b2
 ·refine sR ?_;refine rC ?_;refine nQ ?_;refine sR ?_;refine rC ?_;refine rQ (eql_s (a := t) (b := sClient) tab_ok rfl rfl rfl) ?_;refine nS ?_;refine wF ?_;refine kS ?_
  refine sR ?_;refine rC ?_;refine rQ (call_r hs rfl rfl (arg_e (arg_e arg_nil)) (.inl rfl) (fun _ => rfl)) ?_;refine rC ?_;refine nQ ?_;refine wc_draw (by kernel_rfl) ?_
  refine dQ [2] [1] iM ?_;refine dC [5] [] ?_;refine dQ [22] [] iA ?_;refine dQ [23] [] iL ?_;refine dQ [21, 24] [2] (lookup2_some (κ := List UInt8) (enc := strD) (l := knownL) (k := a) key_str Tryz.underlying136 rfl rfl rfl hf) ?_
  refine dC [25] [] ?_;iterate 2 refine dC [20] [] ?_
  refine dC [26] [] ?_;refine dC [27] [] ?_;refine dreg_end (by kernel_rfl) ?_;refine seq_n ?_;refine qR ?_;iterate 3 refine rC ?_
  refine rP ?_;refine rQ iM ?_;refine rP ?_;refine rQ (len_own tab_ok rfl rfl) ?_;refine rP ?_;refine rC ?_;refine rQ iG ?_;refine nS ?_;refine wG ?_;refine kS ?_
  refine sR ?_;iterate 2 refine rC ?_
  refine rQ (slice_from (m := 1) tab_ok rfl rfl rfl rfl rfl (Nat.succ_le_succ (Nat.zero_le _))) ?_;refine rQ (call_r hread rfl rfl (arg_e arg_nil) (.inl rfl) (fun _ => rfl)) ?_
  iterate 3 refine rC ?_
  refine rN ?_;refine rW ?_;refine rC ?_;refine nQ ?_;refine sR ?_;iterate 3 refine rC ?_
  refine rP ?_;refine rQ iM ?_;refine rP ?_;refine rQ (call_r hline rfl rfl (arg_e arg_nil) (.inl rfl) (fun _ => rfl)) ?_;refine rP ?_;refine rC ?_;refine rP ?_;refine rQ (neq_s (a := lineP o) (b := t) tab_ok rfl rfl rfl) ?_
  refine rQ iG ?_;refine nS ?_;refine wF ?_;refine kS ?_;refine wc_seq ?_;refine wc_draw (by kernel_rfl) ?_;iterate 2 refine dQ [1] [0] iM ?_
  refine dQ [51] [3] (len_own tab_ok rfl rfl) ?_;refine dQ [52] [] (sub_int (m := (l.length : Int)) tab_ok rfl rfl hw) ?_;refine dQ [50, 53] [] (index_own tab_ok rfl rfl rfl rfl rfl (by omega) (by omega)) ?_
  refine dQ [54] [3] (load_row tab_ok rfl rfl (rsub_last (s := 1) (A := .own 4 0 p.length 3 none) hsz hmm ((Int.toNat_natCast _).trans hml.symm)) rfl) ?_;refine dQ [8] [304] iM ?_
  refine dreg_w [56] [] rfl (build_slice (s := 3) tab_ok rfl rfl rfl rfl rfl rfl rfl rfl) ?_;refine dreg_w2 [55, 57] [4, 448] rfl (append_one (xs := p) (s := 3) (enc := encPOp) tab_ok o rfl rfl rfl rfl rfl rfl rfl rfl rfl hpl rfl) ?_
  refine dC [58] [] ?_;refine dreg_end (by kernel_rfl) ?_;refine seq_n ?_;refine sR ?_;iterate 2 refine rQ iM ?_
  refine rQ (len_own tab_ok rfl rfl) ?_;refine rQ (sub_int (m := (l.length : Int)) tab_ok rfl rfl hw) ?_;refine rC ?_;refine rQ (index_own tab_ok rfl rfl rfl rfl rfl (by omega) (by omega)) ?_
  refine reg_store (store_row tab_ok rfl rfl rfl (rupd_last (s := 1) hsz hmm ((Int.toNat_natCast _).trans hml.symm) rfl rfl) rfl) ?_;refine nQ ?_;refine sR ?_;refine rC ?_
  refine rQ (len_own tab_ok rfl rfl) ?_;iterate 2 refine rC ?_
  refine rO ?_;refine rC ?_;refine rO ?_;refine rQ iB ?_;refine rO ?_;refine rQ iE ?_;refine rO ?_;refine rC ?_;refine rQ iF ?_;refine nS ?_;refine wF ?_;refine kS ?_
  refine sR ?_;refine rC ?_;refine nS ?_;refine wc_ret ?_
  exact ⟨trivial, [(65, some 456)], .of rfl rfl rfl rfl rfl ⟨⟨_, rfl, AVLe.of_eq rfl⟩, rfl, trivial⟩ ⟨⟨rfl, rfl, _, rfl, .refl _⟩, ⟨rfl, rfl, _, rfl, .refl _⟩, ⟨rfl, rfl, _, rfl, .refl _⟩, ⟨rfl, chM_lt rfl _, _, rfl, leaf_len rfl hpn rfl⟩, ⟨rfl, rfl, _, rfl, .refl _⟩, trivial⟩⟩
 ·refine sR ?_;refine rC ?_;refine nQ ?_;refine sR ?_;refine rC ?_;refine rQ (eql_s (a := t) (b := sClient) tab_ok rfl rfl rfl) ?_;refine nS ?_;refine wF ?_;refine kS ?_
  refine sR ?_;refine rC ?_;refine rQ (call_r hs rfl rfl (arg_e (arg_e arg_nil)) (.inl rfl) (fun _ => rfl)) ?_;refine rC ?_;refine nQ ?_;refine wc_draw (by kernel_rfl) ?_
  refine dQ [2] [1] iM ?_;refine dC [5] [] ?_;refine dQ [22] [] iA ?_;refine dQ [23] [] iL ?_;refine dQ [21, 24] [2] (lookup2_some (κ := List UInt8) (enc := strD) (l := knownL) (k := a) key_str Tryz.underlying136 rfl rfl rfl hf) ?_
  refine dC [25] [] ?_;iterate 2 refine dC [20] [] ?_
  refine dC [26] [] ?_;refine dC [27] [] ?_;refine dreg_end (by kernel_rfl) ?_;refine seq_n ?_;refine qR ?_;iterate 3 refine rC ?_
  refine rP ?_;refine rQ iM ?_;refine rP ?_;refine rQ (len_own tab_ok rfl rfl) ?_;refine rP ?_;refine rC ?_;refine rQ iG ?_;refine nS ?_;refine wG ?_;refine kS ?_
  refine sR ?_;iterate 2 refine rC ?_
  refine rQ (slice_from (m := 1) tab_ok rfl rfl rfl rfl rfl (Nat.succ_le_succ (Nat.zero_le _))) ?_;refine rQ (call_r hread rfl rfl (arg_e arg_nil) (.inl rfl) (fun _ => rfl)) ?_
  iterate 3 refine rC ?_
  refine rN ?_;refine rW ?_;refine rC ?_;refine nQ ?_;refine sR ?_;iterate 3 refine rC ?_
  refine rP ?_;refine rQ iM ?_;refine rP ?_;refine rQ (call_r hline rfl rfl (arg_e arg_nil) (.inl rfl) (fun _ => rfl)) ?_;refine rP ?_;refine rC ?_;refine rP ?_;refine rQ (neq_s (a := lineP o) (b := t) tab_ok rfl rfl rfl) ?_
  refine rQ iG ?_;refine nS ?_;refine wF ?_;refine kS ?_;refine wc_seq ?_;refine wc_draw (by kernel_rfl) ?_;iterate 2 refine dQ [1] [0] iM ?_
  refine dQ [51] [3] (len_own tab_ok rfl rfl) ?_;refine dQ [52] [] (sub_int (m := (l.length : Int)) tab_ok rfl rfl hw) ?_;refine dQ [50, 53] [] (index_own tab_ok rfl rfl rfl rfl rfl (by omega) (by omega)) ?_
  refine dQ [54] [3] (load_row tab_ok rfl rfl (rsub_last (s := 1) (A := .own 4 0 p.length 3 none) hsz hmm ((Int.toNat_natCast _).trans hml.symm)) rfl) ?_;refine dQ [8] [304] iM ?_
  refine dreg_w [56] [] rfl (build_slice (s := 3) tab_ok rfl rfl rfl rfl rfl rfl rfl rfl) ?_;refine dreg_w2 [55, 57] [4, 448] rfl (append_one (xs := p) (s := 3) (enc := encPOp) tab_ok o rfl rfl rfl rfl rfl rfl rfl rfl rfl hpl rfl) ?_
  refine dC [58] [] ?_;refine dreg_end (by kernel_rfl) ?_;refine seq_n ?_;refine sR ?_;iterate 2 refine rQ iM ?_
  refine rQ (len_own tab_ok rfl rfl) ?_;refine rQ (sub_int (m := (l.length : Int)) tab_ok rfl rfl hw) ?_;refine rC ?_;refine rQ (index_own tab_ok rfl rfl rfl rfl rfl (by omega) (by omega)) ?_
  refine reg_store (store_row tab_ok rfl rfl rfl (rupd_last (s := 1) hsz hmm ((Int.toNat_natCast _).trans hml.symm) rfl rfl) rfl) ?_;refine nQ ?_;refine sR ?_;refine rC ?_
  refine rQ (len_own tab_ok rfl rfl) ?_;iterate 2 refine rC ?_
  refine rO ?_;refine rC ?_;refine rO ?_;refine rQ iB ?_;refine rO ?_;refine rQ iE ?_;refine rO ?_;refine rC ?_;refine rQ iF ?_;refine nS ?_;refine wT ?_;refine sR ?_
  refine rC ?_;refine nS ?_;refine wc_ret ?_;refine seq_r ?_
  exact ⟨trivial, [(65, some 456)], .of rfl rfl rfl rfl rfl ⟨⟨_, rfl, AVLe.of_eq rfl⟩, rfl, trivial⟩ ⟨⟨rfl, rfl, _, rfl, .refl _⟩, ⟨rfl, rfl, _, rfl, .refl _⟩, ⟨rfl, rfl, _, rfl, .refl _⟩, ⟨rfl, chM_lt rfl _, _, rfl, leaf_len rfl hpn rfl⟩, ⟨rfl, rfl, _, rfl, .refl _⟩, trivial⟩⟩
 ·refine sR ?_;refine rC ?_;refine nQ ?_;refine sR ?_;refine rC ?_;refine rQ (eql_s (a := t) (b := sClient) tab_ok rfl rfl rfl) ?_;refine nS ?_;refine wF ?_;refine kS ?_
  refine sR ?_;refine rC ?_;refine rQ (call_r hs rfl rfl (arg_e (arg_e arg_nil)) (.inl rfl) (fun _ => rfl)) ?_;refine rC ?_;refine nQ ?_;refine wc_draw (by kernel_rfl) ?_
  refine dQ [2] [1] iM ?_;refine dC [5] [] ?_;refine dQ [22] [] iA ?_;refine dQ [23] [] iL ?_;refine dQ [21, 24] [2] (lookup2_some (κ := List UInt8) (enc := strD) (l := knownL) (k := a) key_str Tryz.underlying136 rfl rfl rfl hf) ?_
  refine dC [25] [] ?_;iterate 2 refine dC [20] [] ?_
  refine dC [26] [] ?_;refine dC [27] [] ?_;refine dreg_end (by kernel_rfl) ?_;refine seq_n ?_;refine qR ?_;iterate 3 refine rC ?_
  refine rP ?_;refine rQ iM ?_;refine rP ?_;refine rQ (len_own tab_ok rfl rfl) ?_;refine rP ?_;refine rC ?_;refine rQ iG ?_;refine nS ?_;refine wG ?_;refine kS ?_
  refine sR ?_;iterate 2 refine rC ?_
  refine rQ (slice_from (m := 1) tab_ok rfl rfl rfl rfl rfl (Nat.succ_le_succ (Nat.zero_le _))) ?_;refine rQ (call_r hread rfl rfl (arg_e arg_nil) (.inl rfl) (fun _ => rfl)) ?_
  iterate 3 refine rC ?_
  refine rN ?_;refine rW ?_;refine rC ?_;refine nQ ?_;refine sR ?_;iterate 3 refine rC ?_
  refine rP ?_;refine rQ iM ?_;refine rP ?_;refine rQ (call_r hline rfl rfl (arg_e arg_nil) (.inl rfl) (fun _ => rfl)) ?_;refine rP ?_;refine rC ?_;refine rP ?_;refine rQ (neq_s (a := lineP o) (b := t) tab_ok rfl rfl rfl) ?_
  refine rQ iG ?_;refine nS ?_;refine wF ?_;refine kS ?_;refine wc_seq ?_;refine wc_draw (by kernel_rfl) ?_;iterate 2 refine dQ [1] [0] iM ?_
  refine dQ [51] [3] (len_own tab_ok rfl rfl) ?_;refine dQ [52] [] (sub_int (m := (l.length : Int)) tab_ok rfl rfl hw) ?_;refine dQ [50, 53] [] (index_own tab_ok rfl rfl rfl rfl rfl (by omega) (by omega)) ?_
  refine dQ [54] [3] (load_row tab_ok rfl rfl (rsub_last (s := 1) (A := .own 4 0 p.length 3 none) hsz hmm ((Int.toNat_natCast _).trans hml.symm)) rfl) ?_;refine dQ [8] [304] iM ?_
  refine dreg_w [56] [] rfl (build_slice (s := 3) tab_ok rfl rfl rfl rfl rfl rfl rfl rfl) ?_;refine dreg_w2 [55, 57] [4, 448] rfl (append_one (xs := p) (s := 3) (enc := encPOp) tab_ok o rfl rfl rfl rfl rfl rfl rfl rfl rfl hpl rfl) ?_
  refine dC [58] [] ?_;refine dreg_end (by kernel_rfl) ?_;refine seq_n ?_;refine sR ?_;iterate 2 refine rQ iM ?_
  refine rQ (len_own tab_ok rfl rfl) ?_;refine rQ (sub_int (m := (l.length : Int)) tab_ok rfl rfl hw) ?_;refine rC ?_;refine rQ (index_own tab_ok rfl rfl rfl rfl rfl (by omega) (by omega)) ?_
  refine reg_store (store_row tab_ok rfl rfl rfl (rupd_last (s := 1) hsz hmm ((Int.toNat_natCast _).trans hml.symm) rfl rfl) rfl) ?_;refine nQ ?_;refine sR ?_;refine rC ?_
  refine rQ (len_own tab_ok rfl rfl) ?_;iterate 2 refine rC ?_
  iterate 4 refine rS ?_
  refine rQ iT ?_;refine nS ?_;refine wV ?_;refine sR ?_;refine rC ?_;refine nS ?_;refine wc_ret ?_;refine seq_r ?_
  exact ⟨trivial, [(65, some 456)], .of rfl rfl rfl rfl rfl ⟨⟨_, rfl, AVLe.of_eq rfl⟩, rfl, trivial⟩ ⟨⟨rfl, rfl, _, rfl, .refl _⟩, ⟨rfl, rfl, _, rfl, .refl _⟩, ⟨rfl, rfl, _, rfl, .refl _⟩, ⟨rfl, chM_lt rfl _, _, rfl, leaf_len rfl hpn rfl⟩, ⟨rfl, rfl, _, rfl, .refl _⟩, trivial⟩⟩
 ·refine sR ?_;refine rC ?_;refine nQ ?_;refine sR ?_;refine rC ?_;refine rQ (eql_s (a := t) (b := sClient) tab_ok rfl rfl rfl) ?_;refine nS ?_;refine wF ?_;refine kS ?_
  refine sR ?_;refine rC ?_;refine rQ (call_r hs rfl rfl (arg_e (arg_e arg_nil)) (.inl rfl) (fun _ => rfl)) ?_;refine rC ?_;refine nQ ?_;refine wc_draw (by kernel_rfl) ?_
  refine dQ [2] [1] iM ?_;refine dC [5] [] ?_;refine dQ [22] [] iA ?_;refine dQ [23] [] iL ?_;refine dQ [21, 24] [2] (lookup2_some (κ := List UInt8) (enc := strD) (l := knownL) (k := a) key_str Tryz.underlying136 rfl rfl rfl hf) ?_
  refine dC [25] [] ?_;iterate 2 refine dC [20] [] ?_
  refine dC [26] [] ?_;refine dC [27] [] ?_;refine dreg_end (by kernel_rfl) ?_;refine seq_n ?_;refine qR ?_;iterate 3 refine rC ?_
  refine rP ?_;refine rQ iM ?_;refine rP ?_;refine rQ (len_own tab_ok rfl rfl) ?_;refine rP ?_;refine rC ?_;refine rQ iG ?_;refine nS ?_;refine wG ?_;refine kS ?_
  refine sR ?_;iterate 2 refine rC ?_
  refine rQ (slice_from (m := 1) tab_ok rfl rfl rfl rfl rfl (Nat.succ_le_succ (Nat.zero_le _))) ?_;refine rQ (call_r hread rfl rfl (arg_e arg_nil) (.inl rfl) (fun _ => rfl)) ?_
  iterate 3 refine rC ?_
  refine rN ?_;refine rW ?_;refine rC ?_;refine nQ ?_;refine sR ?_;iterate 3 refine rC ?_
  refine rP ?_;refine rQ iM ?_;refine rP ?_;refine rQ (call_r hline rfl rfl (arg_e arg_nil) (.inl rfl) (fun _ => rfl)) ?_;refine rP ?_;refine rC ?_;refine rP ?_;refine rQ (neq_s (a := lineP o) (b := t) tab_ok rfl rfl rfl) ?_
  refine rQ iG ?_;refine nS ?_;refine wF ?_;refine kS ?_;refine wc_seq ?_;refine wc_draw (by kernel_rfl) ?_;iterate 2 refine dQ [1] [0] iM ?_
  refine dQ [51] [3] (len_own tab_ok rfl rfl) ?_;refine dQ [52] [] (sub_int (m := (l.length : Int)) tab_ok rfl rfl hw) ?_;refine dQ [50, 53] [] (index_own tab_ok rfl rfl rfl rfl rfl (by omega) (by omega)) ?_
  refine dQ [54] [3] (load_row tab_ok rfl rfl (rsub_last (s := 1) (A := .own 4 0 p.length 3 none) hsz hmm ((Int.toNat_natCast _).trans hml.symm)) rfl) ?_;refine dQ [8] [304] iM ?_
  refine dreg_w [56] [] rfl (build_slice (s := 3) tab_ok rfl rfl rfl rfl rfl rfl rfl rfl) ?_;refine dreg_w2 [55, 57] [4, 448] rfl (append_one (xs := p) (s := 3) (enc := encPOp) tab_ok o rfl rfl rfl rfl rfl rfl rfl rfl rfl hpl rfl) ?_
  refine dC [58] [] ?_;refine dreg_end (by kernel_rfl) ?_;refine seq_n ?_;refine sR ?_;iterate 2 refine rQ iM ?_
  refine rQ (len_own tab_ok rfl rfl) ?_;refine rQ (sub_int (m := (l.length : Int)) tab_ok rfl rfl hw) ?_;refine rC ?_;refine rQ (index_own tab_ok rfl rfl rfl rfl rfl (by omega) (by omega)) ?_
  refine reg_store (store_row tab_ok rfl rfl rfl (rupd_last (s := 1) hsz hmm ((Int.toNat_natCast _).trans hml.symm) rfl rfl) rfl) ?_;refine nQ ?_;refine sR ?_;refine rC ?_
  refine rQ (len_own tab_ok rfl rfl) ?_;iterate 2 refine rC ?_
  iterate 4 refine rS ?_
  refine rQ iT ?_;refine nS ?_;refine wV ?_;refine sR ?_;refine rC ?_;refine nS ?_;refine wc_ret ?_;refine seq_r ?_
  exact ⟨trivial, [(65, some 456)], .of rfl rfl rfl rfl rfl ⟨⟨_, rfl, AVLe.of_eq rfl⟩, rfl, trivial⟩ ⟨⟨rfl, rfl, _, rfl, .refl _⟩, ⟨rfl, rfl, _, rfl, .refl _⟩, ⟨rfl, rfl, _, rfl, .refl _⟩, ⟨rfl, chM_lt rfl _, _, rfl, leaf_len rfl hpn rfl⟩, ⟨rfl, rfl, _, rfl, .refl _⟩, trivial⟩⟩
end Go.Proofs.YthiijfbcfoifnaaGreatDoor
namespace Go.Proofs.YthiijfbcfoifnaaGreatDoor
open Go.Eng Go.Plain
theorem opW_some {w : List (List UInt8)} (h : (opW w).2 = true) : ∃ k i d, w = [k, i, d] ∧ opF k i d = some (opW w).1 := by
 unfold opW at h ⊢
 split
 ·rename_i k i d
  exact ⟨k, i, d, rfl, by rw [opF_is, if_pos h]⟩
 ·rename_i hn
  split at h
  ·rename_i k i d
   exact absurd rfl (hn k i d)
  ·cases h
theorem opW_none {k i d : List UInt8} (h : (opW [k, i, d]).2 = false) : opF k i d = none := by
 rw [opF_is, if_neg]
 intro hc
 rw [show (opW [k, i, d]).2 = opOk k i d from rfl, hc] at h
 cases h
theorem opF_len {k i d : List UInt8} {o : POp} (h : opF k i d = some o) (hd : d.length ≤ 1048576) : o.data.length ≤ 524288 := by
 simp only [opF] at h
 split at h
 ·rename_i d' _ _ h3
  cases h
  have := unhex_len h3
  simp only
  omega
 ·cases h
theorem read_case (a : List UInt8) (r : List (List UInt8)) (hw : ∀ x ∈ r, x.length ≤ 1048576) (hl : a.length + r.length ≤ 1048576) :
  (findC a knownL 0 = none ∧ readW (a :: r) = none) ∨ ∃ j f o b, findC a knownL 0 = some (j, fnA f) ∧ FnIs Tryz.prog f [.d (.arr 1 strD r)] [] (opR o b) [] ∧ (b = true → readW (a :: r) = some o ∧ o.Ok ∧ o.data.length ≤ 524288) ∧ (b = false → readW (a :: r) = none) := by
 have fin : ∀ (ws : List (List UInt8)), (∀ x ∈ ws, x.length ≤ 1048576) → (∀ o, readW (a :: r) = some o → o.Ok) → (∀ k i d, ws = [k, i, d] → readW (a :: r) = opF k i d) → ((∀ k i d, ws ≠ [k, i, d]) → readW (a :: r) = none) →
   ((opW ws).2 = true → readW (a :: r) = some (opW ws).1 ∧ (opW ws).1.Ok ∧ (opW ws).1.data.length ≤ 524288) ∧ ((opW ws).2 = false → readW (a :: r) = none) := by
  intro ws hx hk h1 h2
  constructor
  ·intro h
   obtain ⟨k, i, d, e, h3⟩ := opW_some h
   have h4 : readW (a :: r) = some (opW ws).1 := (h1 k i d e).trans h3
   exact ⟨h4, hk _ h4, opF_len h3 (hx d (by rw [e]; simp))⟩
  ·intro h
   by_cases hs : ∃ k i d, ws = [k, i, d]
   ·obtain ⟨k, i, d, rfl⟩ := hs
    exact (h1 k i d rfl).trans (opW_none h)
   ·exact h2 fun k i d e => hs ⟨k, i, d, e⟩
 have hok : ∀ o, readW (a :: r) = some o → o.Ok := fun o h => readW_ok h
 by_cases h1 : a = sRead
 ·subst h1
  refine .inr ⟨0, 111, _, _, rfl, reader1_is r hw (by simp [sRead, sWrite, sFlush] at hl; omega), ?_⟩
  refine fin _ ?_ hok ?_ ?_
  ·intro x hx
   rcases List.mem_cons.1 hx with rfl | hx
   ·decide
   ·rcases List.mem_append.1 hx with hx | hx
    ·exact hw x hx
    ·rw [List.mem_singleton.1 hx]; decide
  ·intro k i d e
   match r, e with
   | [x], e => cases e; simp [readW]
   | [], e => cases e
   | _ :: _ :: _, e => simp at e
  ·intro hn
   match r, hn with
   | [x], hn => exact absurd rfl (hn [49] x [45])
   | [], _ => simp [readW]
   | _ :: _ :: _, _ => simp [readW]
 by_cases h2 : a = sWrite
 ·subst h2
  refine .inr ⟨1, 114, _, _, rfl, reader2_is r hw (by simp [sRead, sWrite, sFlush] at hl; omega), ?_⟩
  refine fin _ ?_ hok ?_ ?_
  ·intro x hx
   rcases List.mem_cons.1 hx with rfl | hx
   ·decide
   ·exact hw x hx
  ·intro k i d e
   match r, e with
   | [x, y], e => cases e; simp [readW, h1]
   | [], e => cases e
   | [_], e => cases e
   | _ :: _ :: _ :: _, e => simp at e
  ·intro hn
   match r, hn with
   | [x, y], hn => exact absurd rfl (hn [50] x y)
   | [], _ => simp [readW, h1]
   | [_], _ => simp [readW, h1]
   | _ :: _ :: _ :: _, _ => simp [readW, h1]
 by_cases h3 : a = sFlush
 ·subst h3
  refine .inr ⟨2, 115, _, _, rfl, reader3_is r hw (by simp [sRead, sWrite, sFlush] at hl; omega), ?_⟩
  refine fin _ ?_ hok ?_ ?_
  ·intro x hx
   simp only [List.mem_cons] at hx
   rcases hx with rfl | rfl | rfl | hx
   ·decide
   ·decide
   ·decide
   ·exact hw x hx
  ·intro k i d e
   match r, e with
   | [], e => cases e; simp [readW, h1, h2]
   | _ :: _, e => simp at e
  ·intro hn
   match r, hn with
   | [], hn => exact absurd rfl (hn [51] [48] [45])
   | _ :: _, _ => simp [readW, h1, h2]
 by_cases h4 : a = sOp
 ·subst h4
  refine .inr ⟨3, 112, _, _, rfl, operation_is r hw, ?_⟩
  refine fin _ hw hok ?_ ?_
  ·intro k i d e
   subst e
   simp [readW, h1, h2, h3]
  ·intro hn
   match r, hn with
   | [k, i, d], hn => exact absurd rfl (hn k i d)
   | [], _ => simp [readW, h1, h2, h3]
   | [_], _ => simp [readW, h1, h2, h3]
   | [_, _], _ => simp [readW, h1, h2, h3]
   | _ :: _ :: _ :: _ :: _, _ => simp [readW, h1, h2, h3]
 ·refine .inl ⟨?_, by simp [readW, h1, h2, h3, h4]⟩
  simp [knownL, findC, Ne.symm h1, Ne.symm h2, Ne.symm h3, Ne.symm h4, h1, h2, h3, h4]
abbrev addC : FuncId := 75
abbrev addA (t : List UInt8) : List AV := [.d (strD t), .ptr 0 [], .ptr 1 []]
theorem add_none {t : List UInt8} (ht : t ≠ sClient) (hl : t.length ≤ 1048575) : (addP [] t).2 = 5 ∧ FnIs Tryz.prog addC (addA t) S0 (.d (i6 5)) S0 := by
 have h5 : (addP [] t).2 = 5 := by
  simp only [addP, if_neg ht]
  cases readP t <;> rfl
 refine ⟨h5, ?_⟩
 cases hs : splitL t 32 with
 | nil => exact absurd hs (splitL_ne t 32)
 | cons a r =>
  have hh := split_head hs
  have hw : ∀ x ∈ r, x.length ≤ 1048576 := fun x hx => by
   have := split_mem_le t 32 x (by rw [hs]; simp [hx])
   omega
  rcases read_case a r hw (by omega) with ⟨hf, _⟩ | ⟨j, f, o, b, hf, _⟩
  ·exact add_unk0 t a r ht (by omega) hs hf
  ·exact add_known0 t a r ht (by omega) hs f j hf
theorem add_some {t : List UInt8} (ht : t ≠ sClient) (hl : t.length ≤ 1048575) (l : List (List POp)) (p : List POp) (hll : l.length ≤ 1000) (hpp : p.length ≤ 1000) :
  (∃ e : Int, e ≠ 0 ∧ (addP (l ++ [p]) t).2 = e ∧ (FnIs Tryz.prog addC (addA t) (S1 3 4 l p) (.d (i6 e)) (S1 3 4 l p) ∨ ∃ o, FnIs Tryz.prog addC (addA t) (S1 3 4 l p) (.d (i6 e)) (S1 3 65 l (p ++ [o])))) ∨
  ∃ o, addP (l ++ [p]) t = (l ++ [p ++ [o]], 0) ∧ FnIs Tryz.prog addC (addA t) (S1 3 4 l p) (.d (i6 0)) (S1 3 65 l (p ++ [o])) := by
 cases hs : splitL t 32 with
 | nil => exact absurd hs (splitL_ne t 32)
 | cons a r =>
  have hh := split_head hs
  have hw : ∀ x ∈ r, x.length ≤ 1048576 := fun x hx => by
   have := split_mem_le t 32 x (by rw [hs]; simp [hx])
   omega
  have hno : readP t = none → (addP (l ++ [p]) t).2 = 5 := fun h => by simp only [addP, if_neg ht, h]
  rcases read_case a r hw (by omega) with ⟨hf, hr⟩ | ⟨j, f, o, b, hf, hread, hb1, hb2⟩
  ·exact .inl ⟨5, by decide, hno (by simp only [readP, hs, hr]), .inl (add_unk1 t a r ht (by omega) hs hf l p)⟩
  ·cases b with
   | false => exact .inl ⟨5, by decide, hno (by simp only [readP, hs, hb2 rfl]), .inl (add_bad1 t a r ht (by omega) hs f j hf o hread l p hll)⟩
   | true =>
    obtain ⟨h1, h2, h3⟩ := hb1 rfl
    by_cases he : lineP o = t
    ·have hr : readP t = some o := by simp only [readP, hs, h1, if_pos he]
     have hok := add_ok1 t a r ht (by omega) hs f j hf o h2 h3 hread l p hll hpp he _ _ rfl rfl
     have hne : ¬ (l ++ [p] = []) := by simp
     have hg : (l ++ [p]).getLast?.getD [] = p := by simp
     have hbl : (byI o.data).length = o.data.length := byI_len _
     by_cases hbig : 64 < p.length + 1 ∨ 64 < o.data.length
     ·have hb : (decide (64 < ((p.length + 1 : Nat) : Int)) || decide (64 < ((byI o.data).length : Int))) = true := by
       rw [Bool.or_eq_true, decide_eq_true_eq, decide_eq_true_eq, hbl]
       rcases hbig with h | h
       ·exact .inl (by omega)
       ·exact .inr (by omega)
      rw [hb] at hok
      refine .inl ⟨3, by decide, ?_, .inr ⟨o, hok⟩⟩
      simp only [addP, if_neg ht, hr, if_neg hne, hg, if_pos hbig]
     ·have hb : (decide (64 < ((p.length + 1 : Nat) : Int)) || decide (64 < ((byI o.data).length : Int))) = false := by
       rw [Bool.or_eq_false_iff, decide_eq_false_iff_not, decide_eq_false_iff_not, hbl]
       exact ⟨by omega, by omega⟩
      rw [hb] at hok
      refine .inr ⟨o, ?_, hok⟩
      simp only [addP, if_neg ht, hr, if_neg hne, hg, if_neg hbig, lastApp_snoc]
    ·exact .inl ⟨5, by decide, hno (by simp only [readP, hs, h1, if_neg he]), .inl (add_ne1 t a r ht (by omega) hs f j hf o h2 h3 hread l p hll he)⟩
end Go.Proofs.YthiijfbcfoifnaaGreatDoor
namespace Go.Proofs.YthiijfbcfoifnaaGreatDoor
open Go.Eng Go.Plain
set_option maxHeartbeats 4000000
set_option maxRecDepth 20000
attribute [local irreducible] WC RegS RegD SeqQ BlkQ ScoQ RegK CutK Sat SatN FnIs LoopQ StepIs OpIs
abbrev parR (l : List (List POp)) (n : Nat) (e : Int) : AV := .tup (.acons (.d (.arx 1 encXP l)) (.acons (.int .i64 n) (.acons (.d (i6 e)) .anil)))
theorem nil_arx {α : Type} (s : Nat) (enc : α → D) : AVLe (.d (.sc nil_)) (.d (.arx s enc [])) := fun σ w X v h => AVLe.empty_arx s enc σ w X v (AVLe.nil_empty σ w X v h)
def toL : Option (List (List POp) × List POp) → List (List POp)
 | none => []
 | some (l, p) => l ++ [p]
abbrev addF : AV := .fn (.func 75) .anil (.acons (.ptr 65 []) (.acons (.ptr 66 []) .anil))
@[reducible] noncomputable def pSt : Option (List (List POp) × List POp) × List UInt8 × Nat → St
 | (none, s, n) => ⟨[(6, addF), (3, .int .i64 n), (2, .ptr 65 []), (0, .d (strD s))], [(65, some (.box 27 (.own 68 0 0 1 none))), (66, some (.box 136 (.mapr 67))), (67, some (.mo (mapC strD knownL))), (68, some (.ds 32 1 false encO []))], 72, Tryz.f43.ntmps, 64⟩
 | (some (l, p), s, n) => ⟨[(6, addF), (3, .int .i64 n), (2, .ptr 65 []), (0, .d (strD s))], [(65, some (.box 27 (.own 68 0 (l.length + 1) 1 none))), (66, some (.box 136 (.mapr 67))), (67, some (.mo (mapC strD knownL))), (68, some (rowL p l (l.length + 1) 69)), (69, some (rowP p))], 72, Tryz.f43.ntmps, 64⟩
theorem leaf_ren {b b' c : Nat} {p : List POp} {l : List (List POp)} {m m' : Nat} {ρ ρ' : Nat → Option Nat} (hm : m = m') (h1 : ρ b = some c) (h2 : ρ' b' = some c) : RowLe (Row.ren ρ (rowL p l m b)) (Row.ren ρ' (rowL p l m' b')) := by
 subst hm
 show RowLe (.lits _ _ _ _ (AV.ren ρ (chM _ _))) (.lits _ _ _ _ (AV.ren ρ' (chM _ _)))
 rw [chM_ren, chM_ren]
 have e1 : AV.ren ρ (.own b 0 p.length 3 none) = .own c 0 p.length 3 none := by simp [AV.ren, h1]
 have e2 : AV.ren ρ' (.own b' 0 p.length 3 none) = .own c 0 p.length 3 none := by simp [AV.ren, h2]
 rw [e1, e2]
 exact .refl _
theorem arr_map {α β : Type} {s : Nat} {enc : α → D} {enc' : β → D} {g : β → α} {xs : List β} {ys : List α} (hy : ys = xs.map g) (h : ∀ x, enc (g x) = enc' x) : ∀ (σ : Eng.Place) (w : World) (X : Nat → Prop) (cs : List Value), Rel σ w X (.d (.arr s enc ys)) false cs → Rel σ w X (.d (.arr s enc' xs)) false cs := by
 subst hy
 intro σ w X v hv
 rcases hv with ⟨h1, rfl⟩ | ⟨a, c, rfl, h2, h3, f, hf⟩
 ·exact .inl ⟨by simpa using h1, rfl⟩
 ·refine .inr ⟨a, c, by rw [List.length_map], by rw [List.length_map] at h2; exact h2, h3, f, fun i hi => ?_⟩
  have := hf i (by rw [List.length_map]; exact hi)
  rw [List.getElem_map, h] at this
  exact this
theorem arr_nilR {α β : Type} {s : Nat} (enc : α → D) (enc' : β → D) : ∀ (σ : Eng.Place) (w : World) (X : Nat → Prop) (cs : List Value), Rel σ w X (.d (.arr s enc [])) false cs → Rel σ w X (.d (.arr s enc' [])) false cs := by
 intro σ w X v hv
 rcases hv with ⟨_, rfl⟩ | ⟨a, c, rfl, h2, h3, f, _⟩
 ·exact .inl ⟨rfl, rfl⟩
 ·exact .inr ⟨a, c, rfl, h2, h3, f, fun i hi => absurd hi (Nat.not_lt_zero _)⟩
def enc2 : Bool × List POp → D
 | (true, p) => encXP p
 | (false, p) => encP p
theorem enc2_size (x : Bool × List POp) : (enc2 x).size = 1 := by obtain ⟨b, p⟩ := x; cases b <;> rfl
def mkL (L : List (List POp)) (i : Nat) : List (Bool × List POp) := (L.take i).map (fun p => (true, p)) ++ (L.drop i).map (fun p => (false, p))
theorem mkL_len (L : List (List POp)) (i : Nat) : (mkL L i).length = L.length := by simp [mkL]; omega
theorem mkL_get {L : List (List POp)} {i : Nat} {x : List POp} (h : L[i]? = some x) : (mkL L i)[i]? = some (false, x) := by
 have hi : i < L.length := (List.getElem?_eq_some_iff.1 h).1
 rw [mkL, List.getElem?_append_right (by simp; omega)]
 simp only [List.length_map, List.length_take, Nat.min_eq_left (Nat.le_of_lt hi), Nat.sub_self, List.getElem?_map, List.getElem?_drop, Nat.add_zero, h, Option.map_some]
theorem mkL_set {L : List (List POp)} {i : Nat} {x : List POp} (h : L[i]? = some x) : (mkL L i).set i (true, x) = mkL L (i + 1) := by
 have hi : i < L.length := (List.getElem?_eq_some_iff.1 h).1
 have hx : L[i] = x := (List.getElem?_eq_some_iff.1 h).2
 rw [mkL, mkL, List.set_append_right _ _ (by simp; omega), List.drop_eq_getElem_cons hi, hx, List.take_add_one, h]
 simp [Nat.min_eq_left (Nat.le_of_lt hi)]
def PInv (s0 : List UInt8) : Option (List (List POp) × List POp) × List UInt8 × Nat → Prop
 | (q, s, n) => parseP s (toL q) n = parseP s0 [] 1 ∧ chkP (toL q) = 0 ∧ OkL (toL q) ∧ s.length + n ≤ s0.length + 1 ∧ 1 ≤ n
theorem cut_len {s t r : List UInt8} {c : UInt8} (h : cutL s c = some (t, r)) : t.length + r.length + 1 = s.length := by
 rw [(cutL_some h).1]; simp; omega
theorem parse_main (s0 : List UInt8) (hl : s0.length ≤ 1048576) : FnIs Tryz.prog 43 [.d (strD s0)] [] (parR (parseP s0 [] 1).1 (parseP s0 [] 1).2.1 (parseP s0 [] 1).2.2) [] := by
 have hd : decide (1048576 < (s0.length : Int)) = false := dF (by omega)
 refine fnIs_of tab_ok Tryz.func43 rfl rfl rfl ?_;refine sR ?_;refine rN ?_;iterate 2 refine rC ?_
 refine nQ ?_;refine sR ?_;refine rC ?_;refine rQ (len_s tab_ok rfl rfl) ?_;refine rC ?_;refine nS ?_;refine wF ?_;refine kS ?_;refine sR ?_;refine reg_new (call_new readers_is rfl rfl arg_nil (.inl rfl) rfl rfl) rfl ?_
 refine rN ?_;refine rW ?_;refine nR ?_;iterate 2 refine rC ?_
 refine nQ ?_;refine sR ?_;refine rC ?_;refine nS ?_;refine wc_block ?_
 refine wc_inv pSt (PInv s0) (fun a => a.2.1.length) (none, s0, 1) [(65, some 64), (66, some 120), (67, some 112), (68, none)] ⟨rfl, rfl, by intro p hp; simp [toL] at hp, Nat.le_refl _, Nat.le_refl _⟩
  (.of rfl rfl rfl rfl rfl ⟨⟨_, rfl, .refl _⟩, rfl, ⟨_, rfl, .refl _⟩, rfl, ⟨_, rfl, .refl _⟩, rfl, ⟨_, rfl, .refl _⟩, rfl, trivial⟩ ⟨⟨rfl, rfl, _, rfl, .refl _⟩, ⟨rfl, rfl, _, rfl, .refl _⟩, ⟨rfl, rfl, _, rfl, .refl _⟩, ⟨rfl, rfl, rfl⟩, trivial⟩) ?_
 rintro ⟨q, s, n⟩ ⟨hp, hc0, hok, hn, hn1⟩
 by_cases hs : s = []
 ·have hR : parseP s0 [] 1 = (toL q, 0, 0) := by rw [← hp, hs, parseP_nil]
  rw [hR]
  have hs1 : (!decide (s = [])) = false := by rw [hs]; rfl
  cases q with
  | none =>
   have hcl := clones_is [] (by decide)
   have hcp := clips_is []
   refine wc_of ?_;refine qR ?_;refine rC ?_;refine rQ (neq_s (a := s) (b := []) tab_ok rfl rfl rfl) ?_;refine nS ?_;refine wF ?_;refine wc_exit ?_;refine seq_x ?_
   refine loop_x ?_;refine blk_x ?_;refine seq_n ?_;refine qR ?_;refine rQ iM ?_;refine rQ (len_own tab_ok rfl rfl) ?_;refine rC ?_;refine nS ?_;refine wc_block ?_
   refine wc_once ?_;refine sR ?_;refine rC ?_;refine nQ ?_;refine wG ?_;refine wc_exit ?_;refine seq_x ?_;refine loop_x ?_;refine blk_x ?_;refine seq_n ?_;refine sR ?_
   refine rQ iM ?_;refine reg_freeze (env' := [(53, _), (2, _)]) (h' := [(65, some _)]) 68 _ rfl ⟨⟨_, rfl, Frz.le (y := .d (.arr 1 encXP [])) (Frz.own rfl) rfl (fun _ => rfl) (fun _ _ => trivial) (arr_nilR encO encXP)⟩, ⟨_, rfl, .refl _⟩, trivial⟩ ⟨⟨rfl, _, rfl, .refl _⟩, trivial⟩ ?_
   refine rQ (call_r hcl rfl rfl (arg_e arg_nil) (.inl rfl) (fun _ => rfl)) ?_;refine rQ (call_r hcp rfl rfl (arg_e arg_nil) (.inl rfl) (fun _ => rfl)) ?_;refine rW ?_
   iterate 2 refine rC ?_
   refine nS ?_;refine wc_ret ?_
   exact ⟨trivial, _, rfl, [], lf⟩
  | some lp =>
   obtain ⟨l, p⟩ := lp
   obtain ⟨c1, c2⟩ := chkP_ok.1 hc0
   have hl8 : l.length + 1 ≤ 8 := by simpa [toL] using c1
   have hLl : (l ++ [p]).length = l.length + 1 := by simp
   have hcl := clones_is (l ++ [p]) (by rw [hLl]; omega)
   have hcp := clips_is (l ++ [p])
   refine wc_of ?_;refine qR ?_;refine rC ?_;refine rQ (neq_s (a := s) (b := []) tab_ok rfl rfl rfl) ?_;refine nS ?_;refine wF ?_;refine wc_exit ?_;refine seq_x ?_
   refine loop_x ?_;refine blk_x ?_;refine seq_n ?_;refine qR ?_;refine reg_freeze (env' := [(2, _)]) (h' := [(65, some _), (68, some _)]) 69 _ rfl ⟨⟨_, rfl, .refl _⟩, trivial⟩ ⟨⟨rfl, _, rfl, .refl _⟩, ⟨rfl, _, rfl, FrzR.last (enc := enc2) (xs := l.map (fun p => (false, p))) (y := (false, p)) rfl rfl (by simp) enc2_size (by simp [enc2])⟩, trivial⟩ ?_
   refine rQ iM ?_;refine rQ (len_own tab_ok rfl rfl) ?_;refine rC ?_;refine nS ?_;refine wc_block ?_
   refine wc_inv (fun i : Nat => ⟨[(40, .int .i64 i), (39, .int .i64 ((l.length + 1 : Nat) : Int)), (2, .ptr 65 [])], [(65, some (.box 27 (.own 68 0 (l.length + 1) 1 none))), (68, some (.ds 32 1 false enc2 (mkL (l ++ [p]) i)))], 72, Tryz.f43.ntmps, 64⟩) (fun i => i ≤ l.length + 1) (fun i => l.length + 1 - i) 0 [] (Nat.zero_le _)
    (.of rfl rfl rfl rfl rfl ⟨⟨_, rfl, .refl _⟩, rfl, ⟨_, rfl, .refl _⟩, rfl, ⟨_, rfl, .refl _⟩, rfl, trivial⟩ ⟨⟨rfl, rfl, _, rfl, .refl _⟩, ⟨rfl, rfl, _, rfl, RowLe.of_eq (by simp [mkL]; rfl)⟩, trivial⟩) ?_
   intro i hi
   refine wc_of ?_;refine sR ?_;refine rC ?_;refine nQ ?_
   refine wc_cond rfl (fun h3 => ?_) (fun h3 => ?_)
   ·have hlt : i < l.length + 1 := by have := of_decide_eq_true h3; omega
    obtain ⟨x, hx⟩ : ∃ x, (l ++ [p])[i]? = some x := ⟨_, List.getElem?_eq_getElem (by rw [hLl]; exact hlt)⟩
    have hxl : x.length ≤ 1048576 := by
     have := c2 x (List.mem_of_getElem? hx)
     simp only [badP, Bool.or_eq_false_iff, decide_eq_false_iff_not] at this
     omega
    have hgx : (mkL (l ++ [p]) i)[((i : Int)).toNat]? = some (false, x) := by rw [Int.toNat_natCast]; exact mkL_get hx
    have hset := mkL_set hx
    have hc1 := clone_is x hxl
    have hc2 := clip_is x
    refine kS ?_;refine wc_seq ?_;refine wc_block ?_;refine sR ?_;iterate 2 refine rC ?_
    refine nS ?_;refine wc_draw (by kernel_rfl) ?_;refine dQ [2] [65] iM ?_;refine dC [11] [] ?_;refine dQ [2] [65] iM ?_;refine dC [11] [] ?_;refine dQ [45, 46] [] (index_own tab_ok rfl rfl rfl rfl rfl (by omega) (by omega)) ?_
    refine dQ [47] [68] (load_row tab_ok rfl rfl ⟨rfl, (false, x), hgx, _, rfl, rfl⟩ rfl) ?_;refine dQ [48] [] (call_r hc1 rfl rfl (arg_e arg_nil) (.inl rfl) (fun _ => rfl)) ?_
    refine dQ [49] [] (call_r hc2 rfl rfl (arg_e arg_nil) (.inl rfl) (fun _ => rfl)) ?_;refine dQ [43, 44] [] (index_own tab_ok rfl rfl rfl rfl rfl (by omega) (by omega)) ?_
    refine dreg_s [51, 50] [68] (store_row tab_ok rfl rfl rfl ⟨rfl, (false, x), (true, x), hgx, ⟨rfl, rfl, rfl⟩, rfl⟩ rfl) ?_;refine dreg_end (by kernel_rfl) ?_;refine blk_n ?_
    refine seq_n ?_;refine wc_region ?_;refine rQ iD ?_;refine rC ?_;refine reg_nil ?_
    exact loop_n (i + 1) [] hlt (by omega) (.of rfl rfl rfl rfl rfl ⟨⟨_, rfl, .refl _⟩, rfl, ⟨_, rfl, .refl _⟩, rfl, ⟨_, rfl, .refl _⟩, rfl, trivial⟩ ⟨⟨rfl, rfl, _, rfl, .refl _⟩, ⟨rfl, rfl, _, rfl, RowLe.of_eq (congrArg (Row.ds 32 1 false enc2) hset)⟩, trivial⟩)
   ·have he : i = l.length + 1 := by have := of_decide_eq_false h3; omega
    subst he
    have hml : l.length + 1 = (mkL (l ++ [p]) (l.length + 1)).length := by rw [mkL_len, hLl]
    have hmk : mkL (l ++ [p]) (l.length + 1) = (l ++ [p]).map (fun p => (true, p)) := by rw [mkL, ← hLl, List.take_length, List.drop_length]; simp
    refine wc_exit ?_;refine seq_x ?_;refine loop_x ?_;refine blk_x ?_;refine seq_n ?_;refine sR ?_;refine rQ iM ?_;refine reg_freeze (env' := [(53, _), (2, _)]) (h' := [(65, some _)]) 68 _ rfl ⟨⟨_, rfl, Frz.le (y := .d (.arr 1 encXP (l ++ [p]))) (Frz.own hml) rfl (fun _ => rfl) (fun _ _ => trivial) (arr_map (enc' := encXP) (xs := l ++ [p]) (g := fun p => (true, p)) hmk (fun _ => rfl))⟩, ⟨_, rfl, .refl _⟩, trivial⟩ ⟨⟨rfl, _, rfl, .refl _⟩, trivial⟩ ?_
    refine rQ (call_r hcl rfl rfl (arg_e arg_nil) (.inl rfl) (fun _ => rfl)) ?_;refine rQ (call_r hcp rfl rfl (arg_e arg_nil) (.inl rfl) (fun _ => rfl)) ?_;refine rW ?_
    iterate 2 refine rC ?_
    refine nS ?_;refine wc_ret ?_
    exact ⟨trivial, _, rfl, [], lf⟩
 have hs1 : (!decide (s = [])) = true := by rw [dF hs]; rfl
 cases hcut : cutL s 10 with
 | none =>
  have hR : parseP s0 [] 1 = ([], n, 5) := by rw [← hp, parseP_none _ _ hs hcut]
  have hc := cut_is (l := s) (c := 10) (by omega)
  rw [show cutA s 10 = (s, [], false) by simp only [cutA, hcut]] at hc
  rw [hR]
  cases q with
  | none =>
   refine wc_of ?_;refine qR ?_;refine rC ?_;refine rQ (neq_s (a := s) (b := []) tab_ok rfl rfl rfl) ?_;refine nS ?_;refine wT ?_;refine kS ?_;refine wc_seq ?_;refine wc_block ?_
   refine sR ?_;refine rC ?_;refine rQ (call_r hc rfl rfl (arg_e (arg_e arg_nil)) (.inl rfl) (fun _ => rfl)) ?_;iterate 7 refine rC ?_
   refine nQ ?_;refine sR ?_;iterate 2 refine rC ?_
   refine nS ?_;refine wV ?_;refine sR ?_;refine rC ?_;refine rW ?_;iterate 2 refine rC ?_
   refine nS ?_;refine wc_ret ?_;refine seq_r ?_;refine blk_r ?_;refine seq_r ?_;refine loop_r ?_;refine blk_r ?_;refine seq_r ?_
   exact ⟨trivial, _, rfl, [], .of rfl rfl rfl rfl rfl ⟨⟨_, rfl, AVLe.tup1 (nil_arx _ _) rfl⟩, rfl, trivial⟩ trivial⟩
  | some lp =>
   obtain ⟨l, p⟩ := lp
   refine wc_of ?_;refine qR ?_;refine rC ?_;refine rQ (neq_s (a := s) (b := []) tab_ok rfl rfl rfl) ?_;refine nS ?_;refine wT ?_;refine kS ?_;refine wc_seq ?_;refine wc_block ?_
   refine sR ?_;refine rC ?_;refine rQ (call_r hc rfl rfl (arg_e (arg_e arg_nil)) (.inl rfl) (fun _ => rfl)) ?_;iterate 7 refine rC ?_
   refine nQ ?_;refine sR ?_;iterate 2 refine rC ?_
   refine nS ?_;refine wV ?_;refine sR ?_;refine rC ?_;refine rW ?_;iterate 2 refine rC ?_
   refine nS ?_;refine wc_ret ?_;refine seq_r ?_;refine blk_r ?_;refine seq_r ?_;refine loop_r ?_;refine blk_r ?_;refine seq_r ?_
   exact ⟨trivial, _, rfl, [], .of rfl rfl rfl rfl rfl ⟨⟨_, rfl, AVLe.tup1 (nil_arx _ _) rfl⟩, rfl, trivial⟩ trivial⟩
 | some tr =>
  obtain ⟨tx, rest⟩ := tr
  have hlen := cut_len hcut
  have hc := cut_is (l := s) (c := 10) (by omega)
  rw [show cutA s 10 = (tx, rest, true) by simp only [cutA, hcut]] at hc
  have hP := parseP_some (toL q) n hs hcut
  rw [hp] at hP
  cases q with
  | none =>
   by_cases ht : tx = sClient
   ·have hadd0 := add_client0 tx ht
    have hA : addP (toL none) tx = ([[]], 0) := by simp [addP, ht, toL]
    have hR : parseP s0 [] 1 = parseP rest (toL (some ([], []))) (n + 1) := by rw [hP, hA]; rfl
    refine wc_of ?_;refine qR ?_;refine rC ?_;refine rQ (neq_s (a := s) (b := []) tab_ok rfl rfl rfl) ?_;refine nS ?_;refine wT ?_;refine kS ?_;refine wc_seq ?_;refine wc_block ?_
    refine sR ?_;refine rC ?_;refine rQ (call_r hc rfl rfl (arg_e (arg_e arg_nil)) (.inl rfl) (fun _ => rfl)) ?_;iterate 7 refine rC ?_
    refine nQ ?_;refine sR ?_;iterate 2 refine rC ?_
    refine nS ?_;refine wG ?_;refine kS ?_;refine qR ?_;iterate 2 refine rC ?_
    refine reg_do rfl (call_h [(0, some 65), (1, some 66), (2, some 67), (3, some 68)] hadd0 rfl rfl rfl (arg_e (arg_ptr rfl rfl (arg_ptr rfl rfl arg_nil))) ⟨⟨rfl, rfl, _, _, rfl, rfl, .refl _⟩, ⟨rfl, rfl, _, _, rfl, rfl, .refl _⟩, ⟨rfl, rfl, _, _, rfl, rfl, .refl _⟩, ⟨rfl, rfl, _, _, rfl, rfl, .refl _⟩, trivial⟩ rfl rfl (.inl rfl) rfl rfl) rfl rfl ?_
    refine rC ?_;refine nR ?_;iterate 2 refine rC ?_
    refine nS ?_;refine wG ?_;refine kS ?_;refine wc_region ?_;iterate 2 refine rC ?_
    refine reg_nil ?_;refine blk_n ?_;refine seq_n ?_;refine wc_region ?_;refine rC ?_;refine rQ iD ?_;refine rC ?_;refine reg_nil ?_
    exact loop_n (some ([], []), rest, n + 1) [(68, some 192), (69, some 193)] ⟨by rw [← hR], add_chk hc0 hA, add_ok hok hA, by omega, by omega⟩ (by show rest.length < s.length; omega) (.of rfl rfl rfl rfl rfl ⟨⟨_, rfl, .refl _⟩, rfl, ⟨_, rfl, .refl _⟩, rfl, ⟨_, rfl, .refl _⟩, rfl, ⟨_, rfl, .refl _⟩, rfl, trivial⟩ ⟨⟨rfl, rfl, _, rfl, .refl _⟩, ⟨rfl, rfl, _, rfl, .refl _⟩, ⟨rfl, rfl, _, rfl, .refl _⟩, ⟨rfl, chM_lt rfl _, _, rfl, leaf_ren rfl rfl rfl⟩, ⟨rfl, rfl, _, rfl, .refl _⟩, trivial⟩)
   ·obtain ⟨h5, hadd0⟩ := add_none ht (by omega)
    have hR : parseP s0 [] 1 = ([], n, 5) := by
     rw [hP, show toL none = [] from rfl, h5]
     rfl
    rw [hR]
    refine wc_of ?_;refine qR ?_;refine rC ?_;refine rQ (neq_s (a := s) (b := []) tab_ok rfl rfl rfl) ?_;refine nS ?_;refine wT ?_;refine kS ?_;refine wc_seq ?_;refine wc_block ?_
    refine sR ?_;refine rC ?_;refine rQ (call_r hc rfl rfl (arg_e (arg_e arg_nil)) (.inl rfl) (fun _ => rfl)) ?_;iterate 7 refine rC ?_
    refine nQ ?_;refine sR ?_;iterate 2 refine rC ?_
    refine nS ?_;refine wG ?_;refine kS ?_;refine qR ?_;iterate 2 refine rC ?_
    refine reg_do rfl (call_h [(0, some 65), (1, some 66), (2, some 67), (3, some 68)] hadd0 rfl rfl rfl (arg_e (arg_ptr rfl rfl (arg_ptr rfl rfl arg_nil))) ⟨⟨rfl, rfl, _, _, rfl, rfl, .refl _⟩, ⟨rfl, rfl, _, _, rfl, rfl, .refl _⟩, ⟨rfl, rfl, _, _, rfl, rfl, .refl _⟩, ⟨rfl, rfl, _, _, rfl, rfl, .refl _⟩, trivial⟩ rfl rfl (.inl rfl) rfl rfl) rfl rfl ?_
    refine rC ?_;refine nR ?_;iterate 2 refine rC ?_
    refine nS ?_;refine wV ?_;refine sR ?_;iterate 2 refine rC ?_
    refine rW ?_;iterate 2 refine rC ?_
    refine nS ?_;refine wc_ret ?_;refine seq_r ?_;refine blk_r ?_;refine seq_r ?_;refine loop_r ?_;refine blk_r ?_;refine seq_r ?_
    exact ⟨trivial, _, rfl, [], .of rfl rfl rfl rfl rfl ⟨⟨_, rfl, AVLe.tup1 (nil_arx _ _) rfl⟩, rfl, trivial⟩ trivial⟩
  | some lp =>
   obtain ⟨l, p⟩ := lp
   obtain ⟨c1, c2⟩ := chkP_ok.1 hc0
   have hl8 : l.length + 1 ≤ 8 := by simpa [toL] using c1
   have hp64 : p.length ≤ 64 := by
    have := c2 p (by simp [toL])
    simp only [badP, Bool.or_eq_false_iff, decide_eq_false_iff_not] at this
    omega
   by_cases ht : tx = sClient
   ·have hadd1 := add_client1 tx ht l p (by omega)
    by_cases hg : 8 < l.length + 2
    ·rw [if_pos hg] at hadd1
     have hR : parseP s0 [] 1 = ([], n, 3) := by
      have h3 : (addP (toL (some (l, p))) tx).2 = 3 := by
       rw [show toL (some (l, p)) = l ++ [p] from rfl, addP, if_pos ht, if_pos (by simp; omega)]
      rw [hP, h3]
      rfl
     rw [hR]
     refine wc_of ?_;refine qR ?_;refine rC ?_;refine rQ (neq_s (a := s) (b := []) tab_ok rfl rfl rfl) ?_;refine nS ?_;refine wT ?_;refine kS ?_;refine wc_seq ?_;refine wc_block ?_
     refine sR ?_;refine rC ?_;refine rQ (call_r hc rfl rfl (arg_e (arg_e arg_nil)) (.inl rfl) (fun _ => rfl)) ?_;iterate 7 refine rC ?_
     refine nQ ?_;refine sR ?_;iterate 2 refine rC ?_
     refine nS ?_;refine wG ?_;refine kS ?_;refine qR ?_;iterate 2 refine rC ?_
     refine reg_do rfl (call_h [(0, some 65), (1, some 66), (2, some 67), (3, some 68), (4, some 69)] hadd1 rfl rfl rfl (arg_e (arg_ptr rfl rfl (arg_ptr rfl rfl arg_nil))) ⟨⟨rfl, rfl, _, _, rfl, rfl, .refl _⟩, ⟨rfl, rfl, _, _, rfl, rfl, .refl _⟩, ⟨rfl, rfl, _, _, rfl, rfl, .refl _⟩, ⟨rfl, chM_lt rfl _, _, _, rfl, rfl, leaf_keep rfl rfl⟩, ⟨rfl, rfl, _, _, rfl, rfl, .refl _⟩, trivial⟩ rfl rfl (.inl rfl) rfl rfl) rfl rfl ?_
     refine rC ?_;refine nR ?_;iterate 2 refine rC ?_
     refine nS ?_;refine wV ?_;refine sR ?_;iterate 2 refine rC ?_
     refine rW ?_;iterate 2 refine rC ?_
     refine nS ?_;refine wc_ret ?_;refine seq_r ?_;refine blk_r ?_;refine seq_r ?_;refine loop_r ?_;refine blk_r ?_;refine seq_r ?_
     exact ⟨trivial, _, rfl, [], .of rfl rfl rfl rfl rfl ⟨⟨_, rfl, AVLe.tup1 (nil_arx _ _) rfl⟩, rfl, trivial⟩ trivial⟩
    ·rw [if_neg hg] at hadd1
     have hA : addP (toL (some (l, p))) tx = (toL (some (l ++ [p], [])), 0) := by
      rw [show toL (some (l, p)) = l ++ [p] from rfl, addP, if_pos ht, if_neg (by simp; omega)]
      rfl
     have hR : parseP s0 [] 1 = parseP rest (toL (some (l ++ [p], []))) (n + 1) := by rw [hP, hA]; rfl
     refine wc_of ?_;refine qR ?_;refine rC ?_;refine rQ (neq_s (a := s) (b := []) tab_ok rfl rfl rfl) ?_;refine nS ?_;refine wT ?_;refine kS ?_;refine wc_seq ?_;refine wc_block ?_
     refine sR ?_;refine rC ?_;refine rQ (call_r hc rfl rfl (arg_e (arg_e arg_nil)) (.inl rfl) (fun _ => rfl)) ?_;iterate 7 refine rC ?_
     refine nQ ?_;refine sR ?_;iterate 2 refine rC ?_
     refine nS ?_;refine wG ?_;refine kS ?_;refine qR ?_;iterate 2 refine rC ?_
     refine reg_do rfl (call_h [(0, some 65), (1, some 66), (2, some 67), (3, some 68), (4, some 69)] hadd1 rfl rfl rfl (arg_e (arg_ptr rfl rfl (arg_ptr rfl rfl arg_nil))) ⟨⟨rfl, rfl, _, _, rfl, rfl, .refl _⟩, ⟨rfl, rfl, _, _, rfl, rfl, .refl _⟩, ⟨rfl, rfl, _, _, rfl, rfl, .refl _⟩, ⟨rfl, chM_lt rfl _, _, _, rfl, rfl, leaf_keep rfl rfl⟩, ⟨rfl, rfl, _, _, rfl, rfl, .refl _⟩, trivial⟩ rfl rfl (.inl rfl) rfl rfl) rfl rfl ?_
     refine rC ?_;refine nR ?_;iterate 2 refine rC ?_
     refine nS ?_;refine wG ?_;refine kS ?_;refine wc_region ?_;iterate 2 refine rC ?_
     refine reg_nil ?_;refine blk_n ?_;refine seq_n ?_;refine wc_region ?_;refine rC ?_;refine rQ iD ?_;refine rC ?_;refine reg_nil ?_
     exact loop_n (some (l ++ [p], []), rest, n + 1) [(68, some 192), (69, some 193)] ⟨by rw [← hR], add_chk hc0 hA, add_ok hok hA, by omega, by omega⟩ (by show rest.length < s.length; omega) (.of rfl rfl rfl rfl rfl ⟨⟨_, rfl, .refl _⟩, rfl, ⟨_, rfl, .refl _⟩, rfl, ⟨_, rfl, .refl _⟩, rfl, ⟨_, rfl, .refl _⟩, rfl, trivial⟩ ⟨⟨rfl, rfl, _, rfl, .refl _⟩, ⟨rfl, rfl, _, rfl, .refl _⟩, ⟨rfl, rfl, _, rfl, .refl _⟩, ⟨rfl, chM_lt rfl _, _, rfl, leaf_ren rfl rfl rfl⟩, ⟨rfl, rfl, _, rfl, .refl _⟩, trivial⟩)
   ·rcases add_some ht (by omega) l p (by omega) (by omega) with ⟨e, he, h5, hadd1 | ⟨o, hadd1⟩⟩ | ⟨o, hA, hadd1⟩
    ·have hne : (!decide (e = 0)) = true := by rw [dF he]; rfl
     have hR : parseP s0 [] 1 = ([], n, e) := by
      rw [hP, show toL (some (l, p)) = l ++ [p] from rfl, h5, if_neg he]
     rw [hR]
     refine wc_of ?_;refine qR ?_;refine rC ?_;refine rQ (neq_s (a := s) (b := []) tab_ok rfl rfl rfl) ?_;refine nS ?_;refine wT ?_;refine kS ?_;refine wc_seq ?_;refine wc_block ?_
     refine sR ?_;refine rC ?_;refine rQ (call_r hc rfl rfl (arg_e (arg_e arg_nil)) (.inl rfl) (fun _ => rfl)) ?_;iterate 7 refine rC ?_
     refine nQ ?_;refine sR ?_;iterate 2 refine rC ?_
     refine nS ?_;refine wG ?_;refine kS ?_;refine qR ?_;iterate 2 refine rC ?_
     refine reg_do rfl (call_h [(0, some 65), (1, some 66), (2, some 67), (3, some 68), (4, some 69)] hadd1 rfl rfl rfl (arg_e (arg_ptr rfl rfl (arg_ptr rfl rfl arg_nil))) ⟨⟨rfl, rfl, _, _, rfl, rfl, .refl _⟩, ⟨rfl, rfl, _, _, rfl, rfl, .refl _⟩, ⟨rfl, rfl, _, _, rfl, rfl, .refl _⟩, ⟨rfl, chM_lt rfl _, _, _, rfl, rfl, leaf_keep rfl rfl⟩, ⟨rfl, rfl, _, _, rfl, rfl, .refl _⟩, trivial⟩ rfl rfl (.inl rfl) rfl rfl) rfl rfl ?_
     refine rC ?_;refine nR ?_;iterate 2 refine rC ?_
     refine nS ?_;refine wT ?_;refine sR ?_;iterate 2 refine rC ?_
     refine rW ?_;iterate 2 refine rC ?_
     refine nS ?_;refine wc_ret ?_;refine seq_r ?_;refine blk_r ?_;refine seq_r ?_;refine loop_r ?_;refine blk_r ?_;refine seq_r ?_
     exact ⟨trivial, _, rfl, [], .of rfl rfl rfl rfl rfl ⟨⟨_, rfl, AVLe.tup1 (nil_arx _ _) rfl⟩, rfl, trivial⟩ trivial⟩
    ·have hne : (!decide (e = 0)) = true := by rw [dF he]; rfl
     have hR : parseP s0 [] 1 = ([], n, e) := by
      rw [hP, show toL (some (l, p)) = l ++ [p] from rfl, h5, if_neg he]
     rw [hR]
     refine wc_of ?_;refine qR ?_;refine rC ?_;refine rQ (neq_s (a := s) (b := []) tab_ok rfl rfl rfl) ?_;refine nS ?_;refine wT ?_;refine kS ?_;refine wc_seq ?_;refine wc_block ?_
     refine sR ?_;refine rC ?_;refine rQ (call_r hc rfl rfl (arg_e (arg_e arg_nil)) (.inl rfl) (fun _ => rfl)) ?_;iterate 7 refine rC ?_
     refine nQ ?_;refine sR ?_;iterate 2 refine rC ?_
     refine nS ?_;refine wG ?_;refine kS ?_;refine qR ?_;iterate 2 refine rC ?_
     refine reg_do rfl (call_h [(0, some 65), (1, some 66), (2, some 67), (3, some 68), (4, some 69)] hadd1 rfl rfl rfl (arg_e (arg_ptr rfl rfl (arg_ptr rfl rfl arg_nil))) ⟨⟨rfl, rfl, _, _, rfl, rfl, .refl _⟩, ⟨rfl, rfl, _, _, rfl, rfl, .refl _⟩, ⟨rfl, rfl, _, _, rfl, rfl, .refl _⟩, ⟨rfl, chM_lt rfl _, _, _, rfl, rfl, leaf_keep rfl rfl⟩, ⟨rfl, rfl, _, _, rfl, rfl, .refl _⟩, trivial⟩ rfl rfl (.inl rfl) rfl rfl) rfl rfl ?_
     refine rC ?_;refine nR ?_;iterate 2 refine rC ?_
     refine nS ?_;refine wT ?_;refine sR ?_;iterate 2 refine rC ?_
     refine rW ?_;iterate 2 refine rC ?_
     refine nS ?_;refine wc_ret ?_;refine seq_r ?_;refine blk_r ?_;refine seq_r ?_;refine loop_r ?_;refine blk_r ?_;refine seq_r ?_
     exact ⟨trivial, _, rfl, [], .of rfl rfl rfl rfl rfl ⟨⟨_, rfl, AVLe.tup1 (nil_arx _ _) rfl⟩, rfl, trivial⟩ trivial⟩
    ·replace hA : addP (toL (some (l, p))) tx = (toL (some (l, p ++ [o])), 0) := hA
     have hR : parseP s0 [] 1 = parseP rest (toL (some (l, p ++ [o]))) (n + 1) := by rw [hP, hA]; rfl
     refine wc_of ?_;refine qR ?_;refine rC ?_;refine rQ (neq_s (a := s) (b := []) tab_ok rfl rfl rfl) ?_;refine nS ?_;refine wT ?_;refine kS ?_;refine wc_seq ?_;refine wc_block ?_
     refine sR ?_;refine rC ?_;refine rQ (call_r hc rfl rfl (arg_e (arg_e arg_nil)) (.inl rfl) (fun _ => rfl)) ?_;iterate 7 refine rC ?_
     refine nQ ?_;refine sR ?_;iterate 2 refine rC ?_
     refine nS ?_;refine wG ?_;refine kS ?_;refine qR ?_;iterate 2 refine rC ?_
     refine reg_do rfl (call_h [(0, some 65), (1, some 66), (2, some 67), (3, some 68), (4, some 69)] hadd1 rfl rfl rfl (arg_e (arg_ptr rfl rfl (arg_ptr rfl rfl arg_nil))) ⟨⟨rfl, rfl, _, _, rfl, rfl, .refl _⟩, ⟨rfl, rfl, _, _, rfl, rfl, .refl _⟩, ⟨rfl, rfl, _, _, rfl, rfl, .refl _⟩, ⟨rfl, chM_lt rfl _, _, _, rfl, rfl, leaf_keep rfl rfl⟩, ⟨rfl, rfl, _, _, rfl, rfl, .refl _⟩, trivial⟩ rfl rfl (.inl rfl) rfl rfl) rfl rfl ?_
     refine rC ?_;refine nR ?_;iterate 2 refine rC ?_
     refine nS ?_;refine wG ?_;refine kS ?_;refine wc_region ?_;iterate 2 refine rC ?_
     refine reg_nil ?_;refine blk_n ?_;refine seq_n ?_;refine wc_region ?_;refine rC ?_;refine rQ iD ?_;refine rC ?_;refine reg_nil ?_
     exact loop_n (some (l, p ++ [o]), rest, n + 1) [(69, some 193)] ⟨by rw [← hR], add_chk hc0 hA, add_ok hok hA, by omega, by omega⟩ (by show rest.length < s.length; omega) (.of rfl rfl rfl rfl rfl ⟨⟨_, rfl, .refl _⟩, rfl, ⟨_, rfl, .refl _⟩, rfl, ⟨_, rfl, .refl _⟩, rfl, ⟨_, rfl, .refl _⟩, rfl, trivial⟩ ⟨⟨rfl, rfl, _, rfl, .refl _⟩, ⟨rfl, rfl, _, rfl, .refl _⟩, ⟨rfl, rfl, _, rfl, .refl _⟩, ⟨rfl, chM_lt rfl _, _, rfl, leaf_ren rfl rfl rfl⟩, ⟨rfl, rfl, _, rfl, .refl _⟩, trivial⟩)
theorem parse_is (s : List UInt8) (hl : s.length ≤ 1048576) : FnIs Tryz.prog 43 [.d (strD s)] [] (parR (parseP s [] 1).1 (parseP s [] 1).2.1 (parseP s [] 1).2.2) [] := parse_main s hl
theorem beq_is (a b : List UInt8) : FnIs Tryz.prog 94 [.d (encB a), .d (encB b)] [] (.bool (decide (a = b))) [] := by
 refine fnIs_of tab_ok Tryz.func94 rfl rfl rfl ?_;refine sR ?_;refine rC ?_;refine nR ?_;refine rC ?_;refine rQ (conv_bytes tab_ok rfl rfl rfl rfl) ?_;refine rC ?_
 refine rQ (conv_bytes tab_ok rfl rfl rfl rfl) ?_;refine rQ (eql_str tab_ok rfl rfl rfl) ?_;refine rC ?_;refine nS ?_;refine wc_ret ?_
 rw [← mkS_dec, ← strOf_byI, ← strOf_byI]
 exact ⟨trivial, [], lf⟩
theorem sameop_w (x y : POp) (c1 c2 : Bool) (h1 : decide (x.kind = y.kind) = c1) (h2 : decide (x.index = y.index) = c2) : FnIs Tryz.prog 93 [.d (encPOp x), .d (encPOp y)] [] (.bool (c1 && c2 && decide (x.data = y.data))) [] := by
 refine fnIs_of tab_ok Tryz.func93 rfl rfl rfl ?_
 cases c1 <;> cases c2
 ·refine sR ?_;iterate 2 refine rN ?_
  refine rC ?_;refine nR ?_;refine rC ?_;refine rQ iB ?_;refine rC ?_;refine rQ iB ?_;iterate 2 refine rC ?_
  iterate 5 refine rS ?_
  refine rQ iF ?_;refine rC ?_;iterate 5 refine rT ?_
  refine rQ iG ?_;refine rC ?_;refine nS ?_;refine wc_ret ?_
  exact ⟨trivial, [], lf⟩
 ·refine sR ?_;iterate 2 refine rN ?_
  refine rC ?_;refine nR ?_;refine rC ?_;refine rQ iB ?_;refine rC ?_;refine rQ iB ?_;iterate 2 refine rC ?_
  iterate 5 refine rS ?_
  refine rQ iF ?_;refine rC ?_;iterate 5 refine rT ?_
  refine rQ iG ?_;refine rC ?_;refine nS ?_;refine wc_ret ?_
  exact ⟨trivial, [], lf⟩
 ·refine sR ?_;iterate 2 refine rN ?_
  refine rC ?_;refine nR ?_;refine rC ?_;refine rQ iB ?_;refine rC ?_;refine rQ iB ?_;iterate 2 refine rC ?_
  refine rO ?_;refine rC ?_;refine rO ?_;refine rQ iB ?_;refine rO ?_;refine rC ?_;refine rO ?_;refine rQ iB ?_;refine rO ?_;refine rC ?_;refine rQ iT ?_;refine rC ?_
  iterate 5 refine rS ?_
  refine rQ iF ?_;refine rC ?_;refine nS ?_;refine wc_ret ?_
  exact ⟨trivial, [], lf⟩
 ·refine sR ?_;iterate 2 refine rN ?_
  refine rC ?_;refine nR ?_;refine rC ?_;refine rQ iB ?_;refine rC ?_;refine rQ iB ?_;iterate 2 refine rC ?_
  refine rO ?_;refine rC ?_;refine rO ?_;refine rQ iB ?_;refine rO ?_;refine rC ?_;refine rO ?_;refine rQ iB ?_;refine rO ?_;refine rC ?_;refine rQ iT ?_;refine rC ?_
  refine rO ?_;refine rC ?_;refine rO ?_;refine rQ iB ?_;refine rO ?_;refine rC ?_;refine rO ?_;refine rQ iB ?_;refine rO ?_;refine rQ (call_r (beq_is x.data y.data) rfl rfl (arg_e (arg_e arg_nil)) (.inl rfl) (fun _ => rfl)) ?_
  refine rQ iT ?_;refine rC ?_;refine nS ?_;refine wc_ret ?_
  exact ⟨trivial, [], lf⟩
theorem op_dec (x y : POp) : decide (x = y) = (decide (x.kind = y.kind) && decide (x.index = y.index) && decide (x.data = y.data)) := by
 obtain ⟨a, b, c⟩ := x
 obtain ⟨d, e, f⟩ := y
 by_cases h1 : a = d <;> by_cases h2 : b = e <;> by_cases h3 : c = f <;> simp [h1, h2, h3]
theorem sameop_is (x y : POp) : FnIs Tryz.prog 93 [.d (encPOp x), .d (encPOp y)] [] (.bool (decide (x = y))) [] := by
 rw [op_dec]
 exact sameop_w x y _ _ rfl rfl
theorem eqf_ops (p q : List POp) (hL : p.length ≤ 1000000000) : FnIs Tryz.prog 97 [.d (encP p), .d (encP q), fnA 93] [] (.bool (decide (p = q))) [] := by
 refine fnIs_of tab_ok Tryz.func97 rfl rfl rfl ?_
 by_cases hlen : p.length = q.length
 ·have hd : (!decide ((p.length : Int) = (q.length : Int))) = false := by rw [dT (by omega)]; rfl
  refine sR ?_;refine rC ?_;refine nQ ?_;refine sR ?_;refine rC ?_;refine rQ iE ?_;refine rC ?_;refine rQ iE ?_;refine rC ?_;refine nS ?_;refine wF ?_;refine kS ?_
  refine qR ?_;refine rC ?_;refine rQ iE ?_;refine rC ?_;refine nS ?_;refine wc_block ?_
  refine wc_inv (fun i : Nat => ⟨[(17, .int .i64 i), (16, .int .i64 p.length), (15, .d (encP p)), (2, fnA 93), (1, .d (encP q))], [], 72, Tryz.f97.ntmps, 64⟩) (fun i => i ≤ p.length ∧ p.take i = q.take i) (fun i => p.length - i) 0 [] ⟨Nat.zero_le _, by simp⟩
   (.of rfl rfl rfl rfl rfl ⟨⟨_, rfl, .refl _⟩, rfl, ⟨_, rfl, .refl _⟩, rfl, ⟨_, rfl, .refl _⟩, rfl, ⟨_, rfl, .refl _⟩, rfl, ⟨_, rfl, .refl _⟩, rfl, trivial⟩ trivial) ?_
  intro i hi
  obtain ⟨hi, hsame⟩ := hi
  refine wc_of ?_;refine sR ?_;refine rC ?_;refine nQ ?_
  refine wc_cond rfl (fun h3 => ?_) (fun h3 => ?_)
  ·have hlt : i < p.length := by have := of_decide_eq_true h3; omega
   obtain ⟨x, hx⟩ : ∃ x, p[i]? = some x := ⟨_, List.getElem?_eq_getElem hlt⟩
   obtain ⟨y, hy⟩ : ∃ y, q[i]? = some y := ⟨_, List.getElem?_eq_getElem (by omega)⟩
   have hx' : p[((i : Int)).toNat]? = some x := by rw [Int.toNat_natCast]; exact hx
   have hy' : q[((i : Int)).toNat]? = some y := by rw [Int.toNat_natCast]; exact hy
   by_cases he : x = y
   ·have hn : (!decide (x = y)) = false := by rw [dT he]; rfl
    refine kS ?_;refine wc_seq ?_;refine wc_block ?_;refine sR ?_;refine rC ?_;refine rQ iA ?_;refine rQ iL ?_;refine rN ?_;refine rC ?_;refine rW ?_;refine nR ?_;iterate 2 refine rC ?_
    refine rQ iA ?_;refine rQ iL ?_;refine rN ?_;refine rW ?_;refine nR ?_;refine rC ?_;iterate 2 refine rQ iM ?_
    refine rQ (call_r (sameop_is x y) rfl rfl (arg_e (arg_e arg_nil)) (.inl rfl) (fun _ => rfl)) ?_;refine rC ?_;refine nS ?_;refine wF ?_;refine wc_skip ?_;refine blk_n ?_
    refine seq_n ?_;refine wc_region ?_;refine rQ iD ?_;refine rC ?_;refine reg_nil ?_
    exact loop_n (i + 1) [] ⟨hlt, by rw [List.take_add_one, List.take_add_one, hx, hy, hsame, he]⟩ (by omega) (.of rfl rfl rfl rfl rfl ⟨⟨_, rfl, .refl _⟩, rfl, ⟨_, rfl, .refl _⟩, rfl, ⟨_, rfl, .refl _⟩, rfl, ⟨_, rfl, .refl _⟩, rfl, ⟨_, rfl, .refl _⟩, rfl, trivial⟩ trivial)
   ·have hn : (!decide (x = y)) = true := by rw [dF he]; rfl
    have hne : decide (p = q) = false := dF fun e => he (by rw [e, hy] at hx; cases hx; rfl)
    rw [hne]
    refine kS ?_;refine wc_seq ?_;refine wc_block ?_;refine sR ?_;refine rC ?_;refine rQ iA ?_;refine rQ iL ?_;refine rN ?_;refine rC ?_;refine rW ?_;refine nR ?_;iterate 2 refine rC ?_
    refine rQ iA ?_;refine rQ iL ?_;refine rN ?_;refine rW ?_;refine nR ?_;refine rC ?_;iterate 2 refine rQ iM ?_
    refine rQ (call_r (sameop_is x y) rfl rfl (arg_e (arg_e arg_nil)) (.inl rfl) (fun _ => rfl)) ?_;refine rC ?_;refine nS ?_;refine wT ?_;refine sR ?_;refine rC ?_
    refine nS ?_;refine wc_ret ?_;refine blk_r ?_;refine seq_r ?_;refine loop_r ?_;refine blk_r ?_;refine seq_r ?_
    exact ⟨trivial, [], lf⟩
  ·have he : i = p.length := by have := of_decide_eq_false h3; omega
   subst he
   have hpq : decide (p = q) = true := dT (by rw [List.take_length] at hsame; rw [hsame, hlen, List.take_length])
   rw [hpq]
   refine wc_exit ?_;refine seq_x ?_;refine loop_x ?_;refine blk_x ?_;refine seq_n ?_;refine sR ?_;refine rC ?_;refine nS ?_;refine wc_ret ?_
   exact ⟨trivial, [], lf⟩
 ·have hd : (!decide ((p.length : Int) = (q.length : Int))) = true := by rw [dF (by omega)]; rfl
  have hne : decide (p = q) = false := dF fun e => hlen (by rw [e])
  rw [hne]
  refine sR ?_;refine rC ?_;refine nQ ?_;refine sR ?_;refine rC ?_;refine rQ iE ?_;refine rC ?_;refine rQ iE ?_;refine rC ?_;refine nS ?_;refine wT ?_;refine sR ?_
  refine rC ?_;refine nS ?_;refine wc_ret ?_;refine seq_r ?_
  exact ⟨trivial, [], lf⟩
abbrev sRow : List (Nat × Row) := [(0, .box 159 (fnA 93))]
theorem same2_is (p q : List POp) (hL : p.length ≤ 1000000000) : FnIs Tryz.prog 96 [.d (encP p), .d (encP q), .ptr 0 []] sRow (.bool (decide (p = q))) sRow := by
 refine fnIs_of tab_ok Tryz.func96 rfl rfl rfl ?_;refine sR ?_;refine rC ?_;refine nR ?_;iterate 2 refine rC ?_
 refine rQ iM ?_;refine rQ (call_r (eqf_ops p q hL) rfl rfl (arg_e (arg_e (arg_fn arg_nil))) (.inl rfl) (fun _ => rfl)) ?_;refine rC ?_;refine nS ?_;refine wc_ret ?_
 exact ⟨trivial, [], .of rfl rfl rfl rfl rfl ⟨⟨_, rfl, AVLe.of_eq rfl⟩, rfl, trivial⟩ ⟨⟨rfl, rfl, _, rfl, .refl _⟩, trivial⟩⟩
theorem eqf_lists (p q : List (List POp)) (hL : p.length ≤ 1000000000) (hP : ∀ x ∈ p, x.length ≤ 1000000000) : FnIs Tryz.prog 95 [.d (encPL p), .d (encPL q), .fn (.func 96) .anil (.acons (.ptr 0 []) .anil)] sRow (.bool (decide (p = q))) sRow := by
 refine fnIs_of tab_ok Tryz.func95 rfl rfl rfl ?_
 by_cases hlen : p.length = q.length
 ·have hd : (!decide ((p.length : Int) = (q.length : Int))) = false := by rw [dT (by omega)]; rfl
  refine sR ?_;refine rC ?_;refine nQ ?_;refine sR ?_;refine rC ?_;refine rQ iE ?_;refine rC ?_;refine rQ iE ?_;refine rC ?_;refine nS ?_;refine wF ?_;refine kS ?_
  refine qR ?_;refine rC ?_;refine rQ iE ?_;refine rC ?_;refine nS ?_;refine wc_block ?_
  refine wc_inv (fun i : Nat => ⟨[(17, .int .i64 i), (16, .int .i64 p.length), (15, .d (encPL p)), (2, .fn (.func 96) .anil (.acons (.ptr 0 []) .anil)), (1, .d (encPL q))], [(0, some (.box 159 (fnA 93)))], 72, Tryz.f95.ntmps, 64⟩) (fun i => i ≤ p.length ∧ p.take i = q.take i) (fun i => p.length - i) 0 [] ⟨Nat.zero_le _, by simp⟩
   (.of rfl rfl rfl rfl rfl ⟨⟨_, rfl, .refl _⟩, rfl, ⟨_, rfl, .refl _⟩, rfl, ⟨_, rfl, .refl _⟩, rfl, ⟨_, rfl, .refl _⟩, rfl, ⟨_, rfl, .refl _⟩, rfl, trivial⟩ ⟨⟨rfl, rfl, _, rfl, .refl _⟩, trivial⟩) ?_
  intro i hi
  obtain ⟨hi, hsame⟩ := hi
  refine wc_of ?_;refine sR ?_;refine rC ?_;refine nQ ?_
  refine wc_cond rfl (fun h3 => ?_) (fun h3 => ?_)
  ·have hlt : i < p.length := by have := of_decide_eq_true h3; omega
   obtain ⟨x, hx⟩ : ∃ x, p[i]? = some x := ⟨_, List.getElem?_eq_getElem hlt⟩
   obtain ⟨y, hy⟩ : ∃ y, q[i]? = some y := ⟨_, List.getElem?_eq_getElem (by omega)⟩
   have hx' : p[((i : Int)).toNat]? = some x := by rw [Int.toNat_natCast]; exact hx
   have hy' : q[((i : Int)).toNat]? = some y := by rw [Int.toNat_natCast]; exact hy
   have hxl := hP x (List.mem_of_getElem? hx)
   by_cases he : x = y
   ·have hn : (!decide (x = y)) = false := by rw [dT he]; rfl
    refine kS ?_;refine wc_seq ?_;refine wc_block ?_;refine sR ?_;refine rC ?_;refine rQ iA ?_;refine rQ iL ?_;iterate 2 refine rC ?_
    refine nR ?_;iterate 2 refine rC ?_
    refine rQ iA ?_;refine rQ iL ?_;refine rC ?_;refine nR ?_;iterate 3 refine rC ?_
    refine reg_new2 (call_h [(0, some 0)] (same2_is x y hxl) rfl rfl rfl (arg_e (arg_e (arg_ptr rfl rfl arg_nil))) ⟨⟨rfl, rfl, _, _, rfl, rfl, .refl _⟩, trivial⟩ rfl rfl (.inl rfl) rfl rfl) rfl ?_
    refine rC ?_;refine nS ?_;refine wF ?_;refine wc_skip ?_;refine blk_n ?_;refine seq_n ?_;refine wc_region ?_;refine rQ iD ?_;refine rC ?_;refine reg_nil ?_
    exact loop_n (i + 1) [] ⟨hlt, by rw [List.take_add_one, List.take_add_one, hx, hy, hsame, he]⟩ (by omega) (.of rfl rfl rfl rfl rfl ⟨⟨_, rfl, .refl _⟩, rfl, ⟨_, rfl, .refl _⟩, rfl, ⟨_, rfl, .refl _⟩, rfl, ⟨_, rfl, .refl _⟩, rfl, ⟨_, rfl, .refl _⟩, rfl, trivial⟩ ⟨⟨rfl, rfl, _, rfl, .refl _⟩, trivial⟩)
   ·have hn : (!decide (x = y)) = true := by rw [dF he]; rfl
    have hne : decide (p = q) = false := dF fun e => he (by rw [e, hy] at hx; cases hx; rfl)
    rw [hne]
    refine kS ?_;refine wc_seq ?_;refine wc_block ?_;refine sR ?_;refine rC ?_;refine rQ iA ?_;refine rQ iL ?_;iterate 2 refine rC ?_
    refine nR ?_;iterate 2 refine rC ?_
    refine rQ iA ?_;refine rQ iL ?_;refine rC ?_;refine nR ?_;iterate 3 refine rC ?_
    refine reg_new2 (call_h [(0, some 0)] (same2_is x y hxl) rfl rfl rfl (arg_e (arg_e (arg_ptr rfl rfl arg_nil))) ⟨⟨rfl, rfl, _, _, rfl, rfl, .refl _⟩, trivial⟩ rfl rfl (.inl rfl) rfl rfl) rfl ?_
    refine rC ?_;refine nS ?_;refine wT ?_;refine sR ?_;refine rC ?_;refine nS ?_;refine wc_ret ?_;refine blk_r ?_;refine seq_r ?_;refine loop_r ?_;refine blk_r ?_;refine seq_r ?_
    exact ⟨trivial, [], .of rfl rfl rfl rfl rfl ⟨⟨_, rfl, AVLe.of_eq rfl⟩, rfl, trivial⟩ ⟨⟨rfl, rfl, _, rfl, .refl _⟩, trivial⟩⟩
  ·have he : i = p.length := by have := of_decide_eq_false h3; omega
   subst he
   have hpq : decide (p = q) = true := dT (by rw [List.take_length] at hsame; rw [hsame, hlen, List.take_length])
   rw [hpq]
   refine wc_exit ?_;refine seq_x ?_;refine loop_x ?_;refine blk_x ?_;refine seq_n ?_;refine sR ?_;refine rC ?_;refine nS ?_;refine wc_ret ?_
   exact ⟨trivial, [], .of rfl rfl rfl rfl rfl ⟨⟨_, rfl, AVLe.of_eq rfl⟩, rfl, trivial⟩ ⟨⟨rfl, rfl, _, rfl, .refl _⟩, trivial⟩⟩
 ·have hd : (!decide ((p.length : Int) = (q.length : Int))) = true := by rw [dF (by omega)]; rfl
  have hne : decide (p = q) = false := dF fun e => hlen (by rw [e])
  rw [hne]
  refine sR ?_;refine rC ?_;refine nQ ?_;refine sR ?_;refine rC ?_;refine rQ iE ?_;refine rC ?_;refine rQ iE ?_;refine rC ?_;refine nS ?_;refine wT ?_;refine sR ?_
  refine rC ?_;refine nS ?_;refine wc_ret ?_;refine seq_r ?_
  exact ⟨trivial, [], .of rfl rfl rfl rfl rfl ⟨⟨_, rfl, AVLe.of_eq rfl⟩, rfl, trivial⟩ ⟨⟨rfl, rfl, _, rfl, .refl _⟩, trivial⟩⟩
theorem same_is (p q : List (List POp)) (hL : p.length ≤ 1000000000) (hP : ∀ x ∈ p, x.length ≤ 1000000000) : FnIs Tryz.prog 56 [.d (encPL p), .d (encPL q)] [] (.bool (decide (p = q))) [] := by
 refine fnIs_of tab_ok Tryz.func56 rfl rfl rfl ?_;refine sR ?_;refine rC ?_;refine nR ?_;refine rN ?_;refine rW ?_;refine nR ?_;iterate 3 refine rC ?_
 refine reg_new2 (call_h [(0, some 72)] (eqf_lists p q hL hP) rfl rfl rfl (arg_e (arg_e (arg_fn1 rfl rfl arg_nil))) ⟨⟨rfl, rfl, _, _, rfl, rfl, .refl _⟩, trivial⟩ rfl rfl (.inl rfl) rfl rfl) rfl ?_
 refine rC ?_;refine nS ?_;refine wc_ret ?_
 exact ⟨trivial, [], lf⟩
end Go.Proofs.YthiijfbcfoifnaaGreatDoor
namespace Go.Plain
open Go.Eng Go.Lib
structure SCfg where
 blocks : Int
 shards : Int
 frames : Int
 clients : Int
 limit : Int
 reserve : Int
 master : List UInt8
 flaw : Int
 deriving DecidableEq
def InI (n : Int) : Prop := -9223372036854775808 ≤ n ∧ n ≤ 9223372036854775807
def InU (n : Int) : Prop := 0 ≤ n ∧ n ≤ 18446744073709551615
structure SCfg.Ok (c : SCfg) : Prop where
 blocks : InI c.blocks
 shards : InI c.shards
 frames : InI c.frames
 clients : InI c.clients
 limit : InU c.limit
 reserve : InU c.reserve
 master : c.master.length = 32
 flaw : 0 ≤ c.flaw ∧ c.flaw ≤ 255
structure SAct where
 kind : Int
 thread : Int
 sector : Int
 bytes : List UInt8
 back : Int
 deriving DecidableEq
structure SAct.Ok (a : SAct) : Prop where
 kind : 0 ≤ a.kind ∧ a.kind ≤ 255
 thread : InI a.thread
 sector : InI a.sector
 back : InI a.back
def lvl : Nat → Nat → List Nat
 | 0, c => [c]
 | f + 1, c => if c = 1 then [c] else c :: lvl f ((c + 3) / 4)
def cntsN (n : Nat) : List Nat := lvl 6 ((n + 3) / 4)
def hgtN (n : Nat) : Nat := (cntsN n).length - 1
def sectN (n : Nat) : Nat := 2 * n + 2 * (cntsN n).sum
theorem lvl_ne (f c : Nat) : lvl f c ≠ [] := by
 cases f with
 | zero => simp [lvl]
 | succ f => rw [lvl]; split <;> simp
theorem lvl_len : ∀ f c, (lvl f c).length ≤ f + 1
 | 0, c => by simp [lvl]
 | f + 1, c => by
  rw [lvl]
  split
  ·simp
  ·have := lvl_len f ((c + 3) / 4)
   simp only [List.length_cons]; omega
def wchk (c : SCfg) : Int :=
 if ¬ (1 ≤ c.blocks ∧ c.blocks ≤ 4096) ∨ ¬ (1 ≤ c.shards ∧ c.shards ≤ min 8 c.blocks) ∨ ¬ (1 ≤ c.clients ∧ c.clients ≤ 8) then 7
 else if ¬ (c.clients + 1 ≤ c.frames ∧ c.frames ≤ 64) ∨ c.shards * c.frames < 2 * c.clients + hgtN c.blocks.toNat + 1 then 7
 else if c.reserve < 1 ∨ 4294967296 < c.reserve ∨ c.limit < c.reserve ∨ 5 < c.flaw then 7 else 0
theorem wchk_ok {c : SCfg} (h : wchk c = 0) : 1 ≤ c.blocks ∧ c.blocks ≤ 4096 ∧ 1 ≤ c.shards ∧ c.shards ≤ 8 ∧ 1 ≤ c.clients ∧ c.clients ≤ 8 ∧ 1 ≤ c.frames ∧ c.frames ≤ 64 ∧ c.flaw ≤ 5 := by
 unfold wchk at h
 split at h
 ·cases h
 split at h
 ·cases h
 split at h
 ·cases h
 rename_i h1 h2 h3
 simp only [not_or, Decidable.not_not, Int.not_lt] at h1 h2 h3
 obtain ⟨⟨a1, a2⟩, ⟨a3, a4⟩, a5, a6⟩ := h1
 obtain ⟨⟨b1, b2⟩, _⟩ := h2
 obtain ⟨_, _, _, d⟩ := h3
 refine ⟨a1, a2, a3, ?_, a5, a6, by omega, b2, d⟩
 exact Int.le_trans a4 (Int.min_le_left _ _)
def actB (thr sec : Int) (a : SAct) : Bool :=
 if a.kind = 1 then decide (0 ≤ a.thread) && decide (a.thread < thr) && (decide (a.sector = 0) && decide (a.back = 0) && decide (a.bytes = []))
 else if a.kind = 2 then decide (a.bytes.length ≤ 256) && decide (0 ≤ a.sector) && decide (a.sector < sec) && (decide (a.thread = 0) && decide (a.back = 0))
 else if a.kind = 3 then decide (0 ≤ a.sector) && decide (a.sector < sec) && (decide (a.thread = 0) && decide (a.back = 0) && decide (a.bytes = []))
 else if a.kind = 4 then decide (0 ≤ a.back) && decide (0 ≤ a.sector) && decide (a.sector < sec) && (decide (a.thread = 0) && decide (a.bytes = []))
 else if a.kind = 5 then decide (a.thread = 0) && decide (a.sector = 0) && decide (a.back = 0) && decide (a.bytes = [])
 else false
def schk (c : SCfg) (l : List (List POp)) (as' : List SAct) : Int :=
 if wchk c ≠ 0 then wchk c else if chkP l ≠ 0 then chkP l else if (l.length : Int) ≠ c.clients then 1 else if 4096 < as'.length then 3
 else if as'.all (actB (c.clients + c.shards) (sectN c.blocks.toNat)) = true then 0 else 1
theorem schk_ok {c : SCfg} {l : List (List POp)} {bs : List SAct} (h : schk c l bs = 0) : wchk c = 0 ∧ chkP l = 0 ∧ (l.length : Int) = c.clients ∧ bs.length ≤ 4096 ∧ ∀ a ∈ bs, actB (c.clients + c.shards) (sectN c.blocks.toNat) a = true := by
 unfold schk at h
 by_cases h1 : wchk c = 0
 ·rw [if_neg (fun e => e h1)] at h
  by_cases h2 : chkP l = 0
  ·rw [if_neg (fun e => e h2)] at h
   by_cases h3 : (l.length : Int) = c.clients
   ·rw [if_neg (fun e => e h3)] at h
    by_cases h4 : 4096 < bs.length
    ·rw [if_pos h4] at h; cases h
    rw [if_neg h4] at h
    by_cases h5 : bs.all (actB (c.clients + c.shards) (sectN c.blocks.toNat)) = true
    ·exact ⟨h1, h2, h3, by omega, List.all_eq_true.1 h5⟩
    ·rw [if_neg h5] at h; cases h
   ·rw [if_pos h3] at h; cases h
  ·rw [if_pos h2] at h; exact absurd h h2
 ·rw [if_pos h1] at h; exact absurd h h1
def sPick : List UInt8 := [112, 105, 99, 107]
def sEdit : List UInt8 := [101, 100, 105, 116]
def sErase : List UInt8 := [101, 114, 97, 115, 101]
def sReplay : List UInt8 := [114, 101, 112, 108, 97, 121]
def sFall : List UInt8 := [102, 97, 108, 108]
def sVolume : List UInt8 := [118, 111, 108, 117, 109, 101]
def sNonces : List UInt8 := [110, 111, 110, 99, 101, 115]
def sFlaw : List UInt8 := [102, 108, 97, 119]
def sMaster : List UInt8 := [109, 97, 115, 116, 101, 114]
def sPrograms : List UInt8 := [112, 114, 111, 103, 114, 97, 109, 115]
def sActions : List UInt8 := [97, 99, 116, 105, 111, 110, 115]
def lineA (a : SAct) : List UInt8 :=
 if a.kind = 1 then sPick ++ 32 :: itoa a.thread
 else if a.kind = 2 then sEdit ++ 32 :: (itoa a.sector ++ 32 :: hexP a.bytes)
 else if a.kind = 3 then sErase ++ 32 :: itoa a.sector
 else if a.kind = 4 then sReplay ++ 32 :: (itoa a.sector ++ 32 :: itoa a.back)
 else sFall
def head0 (c : SCfg) : List UInt8 := sVolume ++ 32 :: (itoa c.blocks ++ 32 :: (itoa c.shards ++ 32 :: (itoa c.frames ++ 32 :: itoa c.clients)))
def head1 (c : SCfg) : List UInt8 := sNonces ++ 32 :: (itoa c.limit ++ 32 :: itoa c.reserve)
def head2 (c : SCfg) : List UInt8 := sFlaw ++ 32 :: itoa c.flaw
def head3 (c : SCfg) : List UInt8 := sMaster ++ 32 :: hexP c.master
def headsT (c : SCfg) : List (List UInt8) := [head0 c, head1 c, head2 c, head3 c, sPrograms]
def linesT (l : List (List UInt8)) : List UInt8 := l.flatMap fun w => w ++ [10]
def actsT (bs : List SAct) : List UInt8 := bs.flatMap fun a => lineA a ++ [10]
def textS (c : SCfg) (mid : List UInt8) (bs : List SAct) : List UInt8 := linesT (headsT c) ++ mid ++ (sActions ++ [10]) ++ actsT bs
def numS (B : Nat) (w : List UInt8) : Option Nat := match parseUintB B w with
 | .ok u => if decDigits u = w then some u else none
 | _ => none
theorem numS_some {B u : Nat} {w : List UInt8} (h : numS B w = some u) : w = decDigits u := by
 unfold numS at h
 split at h
 ·split at h
  ·rename_i h2
   cases h
   exact h2.symm
  ·cases h
 ·cases h
theorem nib_inv {c : UInt8} {n : Nat} (h : nibO c = some n) : n < 16 ∧ hexC n = c := by
 unfold nibO at h
 split at h
 ·rename_i h0
  cases h
  have hm := ib_mem h0
  obtain ⟨h1, h2⟩ := List.getElem?_eq_some_iff.1 hm
  exact ⟨h1, by rw [hexC, List.getD_eq_getElem?_getD, hm]; rfl⟩
 ·cases h
theorem pairs_inv : ∀ (s t : List UInt8), pairsO s = some t → t.flatMap hexB = s
 | [], t, h => by cases h; rfl
 | [_], _, h => by cases h
 | a :: b :: l, t, h => by
  simp only [pairsO] at h
  split at h
  ·rename_i x y r hx hy hr
   cases h
   obtain ⟨x1, x2⟩ := nib_inv hx
   obtain ⟨y1, y2⟩ := nib_inv hy
   have e : ((x * 16 + y).toUInt8).toNat = x * 16 + y := by
    rw [Nat.toUInt8_eq, UInt8.toNat_ofNat']; omega
   rw [List.flatMap_cons, pairs_inv l r hr, hexB, e, show (x * 16 + y) / 16 = x by omega, show (x * 16 + y) % 16 = y by omega, x2, y2]
   rfl
  ·cases h
theorem unhex_inv {s t : List UInt8} (h : unhexP s = some t) : hexP t = s := by
 unfold unhexP at h
 split at h
 ·rename_i hs
  cases h
  rw [hs]; rfl
 split at h
 ·cases h
 rename_i h1 h2
 have hp := pairs_inv s t h
 rw [hexP, if_neg, hp]
 rintro rfl
 exact h2 hp.symm
def hd0 (ws : List (List UInt8)) (c : SCfg) : Option SCfg := match ws with
 | [v, a, b, d, e] => if v = sVolume then (match numS 31 a, numS 31 b, numS 31 d, numS 31 e with
  | some a, some b, some d, some e => some { c with blocks := a, shards := b, frames := d, clients := e }
  | _, _, _, _ => none) else none
 | _ => none
def hd1 (ws : List (List UInt8)) (c : SCfg) : Option SCfg := match ws with
 | [v, a, b] => if v = sNonces then (match numS 64 a, numS 64 b with
  | some a, some b => some { c with limit := a, reserve := b }
  | _, _ => none) else none
 | _ => none
def hd2 (ws : List (List UInt8)) (c : SCfg) : Option SCfg := match ws with
 | [v, a] => if v = sFlaw then (match numS 8 a with
  | some a => some { c with flaw := a }
  | none => none) else none
 | _ => none
def hd3 (ws : List (List UInt8)) (c : SCfg) : Option SCfg := match ws with
 | [v, a] => if v = sMaster then (match unhexP a with
  | some b => if b.length = 32 then some { c with master := b } else none
  | none => none) else none
 | _ => none
def hd4 (ws : List (List UInt8)) (c : SCfg) : Option SCfg := match ws with
 | [v] => if v = sPrograms then some c else none
 | _ => none
def headS (i : Nat) (t : List UInt8) (c : SCfg) : Option SCfg :=
 if i = 0 then hd0 (splitL t 32) c else if i = 1 then hd1 (splitL t 32) c else if i = 2 then hd2 (splitL t 32) c else if i = 3 then hd3 (splitL t 32) c else hd4 (splitL t 32) c
theorem headS0 (t : List UInt8) (c : SCfg) : headS 0 t c = hd0 (splitL t 32) c := if_pos rfl
theorem headS1 (t : List UInt8) (c : SCfg) : headS 1 t c = hd1 (splitL t 32) c := rfl
theorem headS2 (t : List UInt8) (c : SCfg) : headS 2 t c = hd2 (splitL t 32) c := rfl
theorem headS3 (t : List UInt8) (c : SCfg) : headS 3 t c = hd3 (splitL t 32) c := rfl
theorem headS4 (t : List UInt8) (c : SCfg) : headS 4 t c = hd4 (splitL t 32) c := rfl
def readA (t : List UInt8) : Option SAct := match splitL t 32 with
 | [v] => if v = sFall then some ⟨5, 0, 0, [], 0⟩ else none
 | [v, a] => if v = sPick then (numS 31 a).map fun (n : Nat) => ⟨1, n, 0, [], 0⟩
  else if v = sErase then (numS 31 a).map fun (n : Nat) => ⟨3, 0, n, [], 0⟩ else none
 | [v, a, b] => if v = sEdit then (match numS 31 a, unhexP b with
  | some n, some d => some ⟨2, 0, n, d, 0⟩
  | _, _ => none)
  else if v = sReplay then (match numS 31 a, numS 31 b with
  | some n, some k => some ⟨4, 0, n, [], k⟩
  | _, _ => none) else none
 | _ => none
def zCfg : SCfg := ⟨0, 0, 0, 0, 0, 0, List.replicate 32 0, 0⟩
def headsS : Nat → Nat → List (List UInt8) → SCfg → SCfg ⊕ Nat
 | 0, _, _, c => .inl c
 | _ + 1, i, [], _ => .inr i
 | f + 1, i, t :: ts, c => match headS i t c with
  | none => .inr i
  | some c => headsS f (i + 1) ts c
def actsS : List (List UInt8) → Nat → List SAct ⊕ Nat
 | [], _ => .inl []
 | t :: ts, i => match readA t with
  | none => .inr i
  | some a => match actsS ts (i + 1) with
   | .inl l => .inl (a :: l)
   | .inr j => .inr j
abbrev SScr : Type := SCfg × List (List POp) × List SAct
def zScr : SScr := (zCfg, [], [])
def parseLs (ls : List (List UInt8)) : SScr × Nat × Int := match headsS 5 0 ls zCfg with
 | .inr i => (zScr, i + 1, 5)
 | .inl c => match (ls.drop 5).findIdx? (· == sActions) with
  | none => (zScr, ls.length + 1, 5)
  | some k => if (parseP (linesT ((ls.drop 5).take k)) [] 1).2.2 ≠ 0 then (zScr, (parseP (linesT ((ls.drop 5).take k)) [] 1).2.1 + 5, (parseP (linesT ((ls.drop 5).take k)) [] 1).2.2)
   else match actsS (ls.drop (6 + k)) (6 + k) with
    | .inr i => (zScr, i + 1, 5)
    | .inl bs => if schk c (parseP (linesT ((ls.drop 5).take k)) [] 1).1 bs ≠ 0 then (zScr, 0, schk c (parseP (linesT ((ls.drop 5).take k)) [] 1).1 bs)
     else ((c, (parseP (linesT ((ls.drop 5).take k)) [] 1).1, bs), 0, 0)
def parseS (t : List UInt8) : SScr × Nat × Int := if t.getLast? = some 10 then parseLs (splitL t.dropLast 10) else (zScr, 0, 5)
def textP2 (c : SCfg) (l : List (List POp)) (bs : List SAct) : List UInt8 × Int :=
 if schk c l bs ≠ 0 then ([], schk c l bs) else if 1048576 < (textS c (textP l) bs).length then ([], 3) else (textS c (textP l) bs, 0)
theorem split_all (c : UInt8) : ∀ l : List UInt8, (splitL l c).flatMap (fun w => w ++ [c]) = l ++ [c]
 | [] => rfl
 | b :: l => by
  have ih := split_all c l
  rw [splitL]
  split
  ·rename_i h
   rw [List.flatMap_cons, ih, h]; rfl
  ·split
   ·rename_i h; exact absurd h (splitL_ne l c)
   ·rename_i w ws h
    rw [h] at ih
    rw [List.flatMap_cons] at ih ⊢
    rw [List.cons_append, List.cons_append, ih]; rfl
theorem split_two {t a b : List UInt8} (h : splitL t 32 = [a, b]) : t = a ++ 32 :: b := by
 have := split_all 32 t
 rw [h] at this
 simp only [List.flatMap_cons, List.flatMap_nil, List.append_nil] at this
 exact (List.append_cancel_right (bs := [32]) (by simpa using this)).symm
theorem split_three {t a b d : List UInt8} (h : splitL t 32 = [a, b, d]) : t = a ++ 32 :: (b ++ 32 :: d) := by
 have := split_all 32 t
 rw [h] at this
 simp only [List.flatMap_cons, List.flatMap_nil, List.append_nil] at this
 exact (List.append_cancel_right (bs := [32]) (by simpa using this)).symm
theorem split_one' {t a : List UInt8} (h : splitL t 32 = [a]) : t = a := by
 have := split_all 32 t
 rw [h] at this
 simp only [List.flatMap_cons, List.flatMap_nil, List.append_nil] at this
 exact (List.append_cancel_right (bs := [32]) (by simpa using this)).symm
theorem split_five {t a b d e f : List UInt8} (h : splitL t 32 = [a, b, d, e, f]) : t = a ++ 32 :: (b ++ 32 :: (d ++ 32 :: (e ++ 32 :: f))) := by
 have := split_all 32 t
 rw [h] at this
 simp only [List.flatMap_cons, List.flatMap_nil, List.append_nil] at this
 exact (List.append_cancel_right (bs := [32]) (by simpa using this)).symm
theorem itoa_nat {n : Int} (h : 0 ≤ n) : itoa n = decDigits n.toNat := by rw [itoa, if_neg (by omega)]
theorem numS_lt {B u : Nat} {w : List UInt8} (h : numS B w = some u) : u < 2 ^ B := by
 unfold numS at h
 split at h
 ·rename_i v hv
  split at h
  ·cases h
   have := parseUintB_le hv
   have h2 : 0 < 2 ^ B := Nat.two_pow_pos B
   omega
  ·cases h
 ·cases h
structure SCfg.Wr (c : SCfg) : Prop where
 blocks : 0 ≤ c.blocks ∧ c.blocks < 2147483648
 shards : 0 ≤ c.shards ∧ c.shards < 2147483648
 frames : 0 ≤ c.frames ∧ c.frames < 2147483648
 clients : 0 ≤ c.clients ∧ c.clients < 2147483648
 limit : InU c.limit
 reserve : InU c.reserve
 master : c.master.length = 32
 flaw : 0 ≤ c.flaw ∧ c.flaw ≤ 255
theorem SCfg.Wr.ok {c : SCfg} (h : c.Wr) : c.Ok := by
 obtain ⟨⟨a1, a2⟩, ⟨a3, a4⟩, ⟨a5, a6⟩, ⟨a7, a8⟩, h5, h6, h7, h8⟩ := h
 exact ⟨⟨by omega, by omega⟩, ⟨by omega, by omega⟩, ⟨by omega, by omega⟩, ⟨by omega, by omega⟩, h5, h6, h7, h8⟩
theorem toNat_eq {n : Int} (h : 0 ≤ n) : ((n.toNat : Nat) : Int) = n := by omega
structure SAct.Wr (a : SAct) : Prop where
 kind : 1 ≤ a.kind ∧ a.kind ≤ 5
 thread : 0 ≤ a.thread ∧ a.thread < 2147483648 ∧ (a.kind ≠ 1 → a.thread = 0)
 sector : 0 ≤ a.sector ∧ a.sector < 2147483648 ∧ (a.kind = 1 ∨ a.kind = 5 → a.sector = 0)
 bytes : a.kind ≠ 2 → a.bytes = []
 back : 0 ≤ a.back ∧ a.back < 2147483648 ∧ (a.kind ≠ 4 → a.back = 0)
def linesP (l : List (List POp)) : List (List UInt8) := l.flatMap fun p => sClient :: p.map lineP
def linesS (c : SCfg) (l : List (List POp)) (bs : List SAct) : List (List UInt8) := headsT c ++ (linesP l ++ (sActions :: bs.map lineA))
theorem last_drop {t : List UInt8} (h : t.getLast? = some 10) : t = t.dropLast ++ [10] := by
 have hne : t ≠ [] := by rintro rfl; cases h
 have := List.dropLast_concat_getLast hne
 rw [List.getLast?_eq_some_getLast hne] at h
 rw [Option.some.inj h] at this
 exact this.symm
theorem head_inv0 {t : List UInt8} {c d : SCfg} (h : headS 0 t c = some d) : ∃ a b e f : Nat, a < 2147483648 ∧ b < 2147483648 ∧ e < 2147483648 ∧ f < 2147483648 ∧ d = { c with blocks := a, shards := b, frames := e, clients := f } ∧ t = head0 d := by
 rw [headS0] at h
 unfold hd0 at h
 split at h
 ·rename_i v a b e f hs
  split at h
  ·rename_i hv
   split at h
   ·rename_i a' b' e' f' ha hb he hf
    cases h
    refine ⟨a', b', e', f', numS_lt ha, numS_lt hb, numS_lt he, numS_lt hf, rfl, ?_⟩
    rw [split_five hs, hv, numS_some ha, numS_some hb, numS_some he, numS_some hf]
    simp [head0, itoa_nonneg]
   ·cases h
  ·cases h
 ·cases h
theorem head_inv1 {t : List UInt8} {c d : SCfg} (h : headS 1 t c = some d) : ∃ a b : Nat, a < 18446744073709551616 ∧ b < 18446744073709551616 ∧ d = { c with limit := a, reserve := b } ∧ t = head1 d := by
 rw [headS1] at h
 unfold hd1 at h
 split at h
 ·rename_i v a b hs
  split at h
  ·rename_i hv
   split at h
   ·rename_i a' b' ha hb
    cases h
    refine ⟨a', b', numS_lt ha, numS_lt hb, rfl, ?_⟩
    rw [split_three hs, hv, numS_some ha, numS_some hb]
    simp [head1, itoa_nonneg]
   ·cases h
  ·cases h
 ·cases h
theorem head_inv2 {t : List UInt8} {c d : SCfg} (h : headS 2 t c = some d) : ∃ a : Nat, a < 256 ∧ d = { c with flaw := a } ∧ t = head2 d := by
 rw [headS2] at h
 unfold hd2 at h
 split at h
 ·rename_i v a hs
  split at h
  ·rename_i hv
   split at h
   ·rename_i a' ha
    cases h
    refine ⟨a', numS_lt ha, rfl, ?_⟩
    rw [split_two hs, hv, numS_some ha]
    simp [head2, itoa_nonneg]
   ·cases h
  ·cases h
 ·cases h
theorem head_inv3 {t : List UInt8} {c d : SCfg} (h : headS 3 t c = some d) : ∃ b : List UInt8, b.length = 32 ∧ d = { c with master := b } ∧ t = head3 d := by
 rw [headS3] at h
 unfold hd3 at h
 split at h
 ·rename_i v a hs
  split at h
  ·rename_i hv
   split at h
   ·rename_i b hb
    split at h
    ·rename_i hl
     cases h
     refine ⟨b, hl, rfl, ?_⟩
     rw [split_two hs, hv, ← unhex_inv hb]
     rfl
    ·cases h
   ·cases h
  ·cases h
 ·cases h
theorem head_inv4 {t : List UInt8} {c d : SCfg} (h : headS 4 t c = some d) : d = c ∧ t = sPrograms := by
 rw [headS4] at h
 unfold hd4 at h
 split at h
 ·rename_i v hs
  split at h
  ·rename_i hv
   cases h
   exact ⟨rfl, by rw [split_one' hs, hv]⟩
  ·cases h
 ·cases h
theorem heads_inv {ls : List (List UInt8)} {c : SCfg} (h : headsS 5 0 ls zCfg = .inl c) : ∃ r, ls = headsT c ++ r ∧ c.Wr := by
 match ls, h with
 | [], h => cases h
 | t0 :: ls, h =>
  rw [headsS] at h
  split at h
  ·cases h
  rename_i c0 h0
  match ls, h with
  | [], h => cases h
  | t1 :: ls, h =>
   rw [headsS] at h
   split at h
   ·cases h
   rename_i c1 h1
   match ls, h with
   | [], h => cases h
   | t2 :: ls, h =>
    rw [headsS] at h
    split at h
    ·cases h
    rename_i c2 h2
    match ls, h with
    | [], h => cases h
    | t3 :: ls, h =>
     rw [headsS] at h
     split at h
     ·cases h
     rename_i c3 h3
     match ls, h with
     | [], h => cases h
     | t4 :: ls, h =>
      rw [headsS] at h
      split at h
      ·cases h
      rename_i c4 h4
      rw [headsS] at h
      cases h
      obtain ⟨a, b, e, f, ha, hb, he, hf, rfl, rfl⟩ := head_inv0 h0
      obtain ⟨g, i, hg, hi, rfl, rfl⟩ := head_inv1 h1
      obtain ⟨j, hj, rfl, rfl⟩ := head_inv2 h2
      obtain ⟨m, hm, rfl, rfl⟩ := head_inv3 h3
      obtain ⟨rfl, rfl⟩ := head_inv4 h4
      refine ⟨ls, rfl, ⟨⟨?_, ?_⟩, ⟨?_, ?_⟩, ⟨?_, ?_⟩, ⟨?_, ?_⟩, ⟨?_, ?_⟩, ⟨?_, ?_⟩, hm, ⟨?_, ?_⟩⟩⟩ <;> simp only <;> omega
end Go.Plain
namespace Go.Eng
open Go.RowKit
theorem Enc.arx_arr {w : World} {X : Nat → Prop} {α : Type} {s : Nat} {enc enc' : α → D} {xs : List α} (h : ∀ x c, Enc w X (enc x) c → Enc w X (enc' x) c) : ∀ cs, Enc w X (.arx s enc xs) cs → Enc w X (.arr s enc' xs) cs := by
 intro cs hc
 rcases hc with ⟨rfl, a, rfl⟩ | ⟨a, rfl, h1, f, hf⟩
 ·cases a with
  | none => exact .inl ⟨rfl, rfl⟩
  | some a => exact .inr ⟨a, 0, rfl, Nat.le_refl _, Nat.zero_le _, fun _ => [], fun i hi => absurd hi (Nat.not_lt_zero _)⟩
 ·exact .inr ⟨a, xs.length, rfl, Nat.le_refl _, h1, f, fun i hi => ⟨h _ _ (hf i hi).1, (hf i hi).2⟩⟩
end Go.Eng
namespace Go.Eng
open Go.RowKit Go.Sort
abbrev encI64 (n : Int) : D := .sc (.int .i64 n)
variable {P : Program}
end Go.Eng
namespace Go.Eng
open Go.RowKit
variable {P : Program} {f : FuncId} {avs avs' : List AV} {h0 : List (Nat × Row)} {res : AV}
def Tells (avs : List AV) (h0 : List (Nat × Row)) (avs' : List AV) (h0' : List (Nat × Row)) : Prop :=
 ∀ (C : Ctx) (G : Nat → Prop) (σ : Place) (w : World) (a : Act), StRel C G (inSt avs h0) σ w a → StRel C G (inSt avs' h0') σ w a
def FreeRes (res : AV) : Prop := (∀ (σ σ' : Place) (w w' : World) (X X' : Nat → Prop) (v : Value), RelV σ w X res v → RelV σ' w' X' res v) ∧ ∀ G : Nat → Prop, res.within G
end Go.Eng
namespace Go.Eng
open Go.RowKit
end Go.Eng
namespace Go.Eng
open Go.RowKit
section
variable {P : Program} {T : Tab} {env : Env} {h : Upds} {n : Nat}
end
end Go.Eng
namespace Go.Eng
open Go.RowKit
theorem RowLe.box_d {t : TypeId} {x y : D} (h : DLe x y) : RowLe (.box t (.d x)) (.box t (.d y)) := by
 rintro σ w X r ⟨_, b, cs, h1, h2, h3⟩
 exact ⟨rfl, b, cs, h1, h2, h _ _ _ h3⟩
section
variable {P : Program} {T : Tab} {env : Env} {h : Upds} {n : Nat} {w : World}
theorem slice_ptr_0 (hT : TabOk P T) {t e L r m c : Nat} {re : TyR} {x lo i j : Operand} {p : List Step} {k0 k k' : IntKind} (ht : tdesc T t = some (.array L e)) (he : lk T e = some re) (hx : evalA env x = some (.ptr r p)) (hlo : evalA env lo = some (.int k0 0)) (hi : evalA env i = some (.int k m)) (hj : evalA env j = some (.int k' c)) (hm : m ≤ c) (hc : c ≤ L) :
  StepIs P (.slice t x (some lo) (some i) (some j)) env h n (some (.asl r p m c)) [] := .of_comes fun C G st σ w a o ho hA hdst hst hn => by
 obtain ⟨ud, hud, hdd⟩ := tdesc_und hT ht
 cases hdd
 obtain ⟨hx1, hx2⟩ := ev_sound hst (hA.ev hx)
 obtain ⟨hi1, _⟩ := RelV.sc.1 (ev_sound hst (hA.ev hi)).1
 obtain ⟨hj1, _⟩ := RelV.sc.1 (ev_sound hst (hA.ev hj)).1
 obtain ⟨hlo1, _⟩ := RelV.sc.1 (ev_sound hst (hA.ev hlo)).1
 obtain ⟨b, c0, hb, hv⟩ := RelV.ptr.1 hx1
 have hsz := (hT e re he).run_size (P := P)
 refine .quiet (u := .slice (some ⟨b, pathOff p, none⟩) m c) hst hdst ⟨rfl, rfl⟩ ?_ (RelV.asl.2 ⟨b, c0, hb, rfl⟩) hx2
 have h1 : (m : Int) ≤ (c : Int) := by omega
 have h2 : (c : Int) ≤ (L : Int) := by omega
 have h3 : ¬ (c : Int) < 0 := by omega
 have h4 : ¬ (m : Int) < 0 := by omega
 simp [execOp, ho, Instr.sliceAt, Instr.sureAddr, hv, hi1, hj1, hlo1, run_underlying hud, Instr.sliceBounds, Instr.sliceBound, asIntOf, hm, hc, hsz, Sem.run_bind, Sem.run_pure, Result.andThen_ok, Addr.add_zero']
theorem run_append_in (t ty e : TypeId) (i : TypeInfo) (ht : P.underlying t = some (.slice e)) (hi : P.info? e = some i) (g sLen sCap : Nat) (cur : Array Value) (t2 : TypeId) (hg : w.heap[g]? = some (.cells cur t2 (0, 0)))
  (a : Addr) (m c : Nat) (news : List Value) (hl : news.length = m * i.size) (hnews : ∀ j u, news[j]? = some u → w.cell? (a.add j) = some u) (h1 : ∀ u ∈ news, u.oneCell' = true) (hroom : sLen + m ≤ sCap) (hfit : sLen * i.size + news.length ≤ cur.size) :
  (Builtin.append_ #[t, t] ty #[.slice (some ⟨g, 0, none⟩) sLen sCap, .slice (some a) m c]).run P w = .ok (.slice (some ⟨g, 0, none⟩) (sLen + m) sCap) (w.setRow g (cur.toList.take (sLen * i.size) ++ news ++ cur.toList.drop (sLen * i.size + news.length)).toArray) := by
 have hf := run_firstCells_some (P := P) w i.size m a m c news hl hnews
 have hst := run_storeCells_at P g (sLen * i.size) t2 news 0 cur w hg (by simpa using hfit) h1
 simp only [Nat.add_zero] at hst
 simp [Builtin.append_, run_underlying ht, sizeOf, typeInfo, hi, Builtin.lenOf, hroom, hf, Addr.add_lit, hst]
theorem append_asl_in (hT : TabOk P T) {t e r r2 len cap : Nat} {re : TyR} {s : Nat} {ex2 : Bool} {cap2 : Option Nat} {x y : Operand} {d : D} {row row' : Row} (ht : tdesc T t = some (.slice e)) (he : lk T e = some re) (hs : Nat.beq re.size s = true) (hs0 : Nat.blt 0 s = true)
  (hx : evalA env x = some (.asl r [] len cap)) (hrow : lookH h r = some row) (hy : evalA env y = some (.own r2 0 1 s cap2)) (hrow2 : lookH h r2 = some (.lits e s 1 ex2 (.acons (.d d) .anil))) (hlen : len < cap) (hu : RUpd row [.idx len s] (.d d) row') :
  StepIs P (.call { callee := .builtin .append, args := #[x, y], argTypes := #[t, t] }) env h n (some (.asl r [] (len + 1) cap)) [(r, some row')] := .of_comes fun C G st σ w a o ho hA hd hst hn => by
 have hs0 := Nat.le_of_ble_eq_true hs0
 have hs := Nat.eq_of_beq_eq_true hs
 obtain ⟨ud, hud, hdd⟩ := tdesc_und hT ht
 cases hdd
 obtain ⟨hx1, hx2⟩ := ev_sound hst (hA.ev hx)
 obtain ⟨hy1, _⟩ := ev_sound hst (hA.ev hy)
 have hrow := hA.row _ _ hrow
 obtain ⟨i, z, hi, hi1, hi2, hi3, hi4⟩ := (hT e re he).info
 obtain ⟨b, c, hb, hux⟩ := RelV.asl.1 hx1
 have hr2 := hst.rows r2 _ (hA.row _ _ hrow2)
 obtain ⟨ad, c1, news, hvy, hnl, hnc, hne⟩ : ∃ (ad : Addr) (c1 : Nat) (news : List Value), a.eval y = .slice (some ad) 1 c1 ∧ news.length = s ∧ (∀ j u, news[j]? = some u → w.cell? (ad.add j) = some u) ∧ Enc w (st.X C.X0 σ) d news := by
  rcases RelV.own.1 hy1 with ⟨_, _, h0, _⟩ | ⟨b, c, ad, hb, hv, hle, _, _, had⟩
  ·omega
  ·have : ad = ⟨b, 0, none⟩ := by have := had (by omega); simpa using this
   subst this
   rcases hr2 with ⟨_, ⟨hn, _⟩ | ⟨b', c', cur, cs, hb', _, hh, hcs, _, _, hcl, hrel, htk⟩⟩
   ·rw [hb] at hn; cases hn
   ·rw [hb] at hb'
    cases hb'
    obtain ⟨c1, c2, rfl, h1, h2⟩ := hrel
    obtain rfl : c2 = [] := h2
    rw [List.append_nil] at hcl htk
    refine ⟨⟨b, 0, none⟩, _, c1, hv, by simpa using hcl, fun j u hj => ?_, h1⟩
    have hjl := (List.getElem?_eq_some_iff.1 hj).1
    rw [add_mk, cell_of_row w b _ cur e (0, 0) hh, Nat.zero_add, ← Array.getElem?_toList]
    rw [← htk, List.getElem?_take, if_pos (by omega)] at hj
    exact hj
 obtain ⟨b', c', cur, t2, A, m, C', hb', hh, ⟨hcur, hA2⟩, hml, hnew⟩ := RUpd.cells (m' := news) hu (hst.rows r row hrow) rfl hne (hst.rowsG r row hrow).2 trivial
 rw [hb] at hb'
 cases hb'
 have hAl : A.length = len * s := by rw [hA2]; simp [pathOff, Step.off]
 have hw := hst.write (new := (A ++ news ++ C').toArray) hrow hb hh (RUpd.within (hst.rowsG r row hrow).2 (show (AV.d d).within G from trivial) hu) (fun w' ht hd' hh' => hnew w' ht hd' hh')
 have hcl : cur.size = A.length + m.length + C'.length := by
  have := congrArg List.length hcur
  simp at this; omega
 have hrun := run_append_in (P := P) (w := w) t o.type e i hud hi b len cap cur t2 hh ad 1 c1 news (by rw [hnl, hi1, hs, Nat.one_mul]) hnc (Enc.one _ _ hne) (by omega) (by rw [hi1, hs, hcl, hml]; omega)
 have e1 : cur.toList.take (len * i.size) = A := by rw [hi1, hs, hcur, ← hAl, List.append_assoc, List.take_left]
 have e2 : cur.toList.drop (len * i.size + news.length) = C' := by rw [hi1, hs, hcur, ← hAl, ← hml, ← List.length_append, List.drop_left]
 rw [e1, e2] at hrun
 have hpo : pathOff ([] : List Step) = 0 := rfl
 rw [hpo] at hux
 refine ⟨_, _, .value (.slice (some ⟨b, 0, none⟩) (len + 1) cap), _, _, σ, G, ⟨rfl, rfl⟩, ?_, .inl rfl, by rw [St.put_upd]; exact hw.set hd (u := .slice (some ⟨b, 0, none⟩) (len + 1) cap) (RelV.asl.2 ⟨b, c, hb, rfl⟩) hx2, fun _ h => h, fun _ h => .inl h⟩
 simp [execOp, ho, resolve, invoke, builtin, hux, hvy, hrun]
end
end Go.Eng
namespace Go.Eng
open Go.RowKit
variable {P : Program} {op : Op} {env : Env} {h : Upds} {n : Nat} {av av' : AV} {row : Row}
theorem StepIs.frozen (hs : StepIs P op env h n (some av) [(n, some row)]) (hf : Frz n row av av') : StepIs P op env h n (some av') [] := by
 intro C G st σ w a o ho hA hd hst hn hb next Q hnext
 refine hs C G st σ w a o ho hA hd hst hn hb next Q fun x w' σ' G' hst' h1 h2 => ?_
 have hnr : ∀ q row', st.row q = some row' → q ≠ n := fun q row' hq e => by
  subst e
  exact hn q (Nat.le_refl _) (by omega) (hst.rowsG _ _ hq).1
 have hrow : (st.put o.dst (some av) [(n, some row)]).row n = some row := by
  simp [St.put, St.row, lk_cons]
 have hrow2 : ∀ q row', q ≠ n → st.row q = some row' → (st.put o.dst (some av) [(n, some row)]).row q = some row' := fun q row' hq hr => by
  simp only [St.put, St.row, List.cons_append, List.nil_append, lk_cons, if_neg (Ne.symm hq)]
  exact hr
 refine hnext x w' σ' G' (hst'.freeze (st' := st.put o.dst (some av') []) n row hrow (fun i v' hi => ?_) (fun q x' hq => ?_) rfl rfl) h1 h2
 ·cases hdst : o.dst with
  | none =>
   simp only [St.put, hdst] at hi ⊢
   exact ⟨v', hi, .refl _⟩
  | some d =>
   simp only [St.put, hdst, lk_cons] at hi ⊢
   split at hi
   ·rename_i e
    rw [if_pos e]
    simp only [Option.some.injEq] at hi
    exact ⟨av, rfl, by rw [← hi]; exact hf⟩
   ·rename_i e
    rw [if_neg e]
    exact ⟨v', hi, .refl _⟩
 ·have hq' : st.row q = some x' := hq
  exact ⟨hnr q x' hq', x', hrow2 q x' (hnr q x' hq') hq', .refl _⟩
end Go.Eng
namespace Go.Eng
open Go.RowKit
variable {P : Program} {T : Tab} {env : Env} {h : Upds} {n : Nat}
def offsA (e s : Nat) : Nat → List (Nat × Nat)
 | 0 => []
 | k + 1 => offsA e s k ++ [(k * s, e)]
end Go.Eng
namespace Go.Proofs.YthiijfbcfoifnaaGreatDoor
open Go.Eng Go.Plain
abbrev u6 (n : Int) : D := .sc (.int .u64 n)
abbrev encK (l : List UInt8) : D := .vec 32 1 encU8 (byI l)
def encCfg (c : SCfg) : D := .cons (i6 c.blocks) (.cons (i6 c.shards) (.cons (i6 c.frames) (.cons (i6 c.clients) (.cons (u6 c.limit) (.cons (u6 c.reserve) (.cons (encK c.master) (.cons (u8s c.flaw) .nil)))))))
def encAct (a : SAct) : D := .cons (u8s a.kind) (.cons (i6 a.thread) (.cons (i6 a.sector) (.cons (encB a.bytes) (.cons (i6 a.back) .nil))))
abbrev encAs (l : List SAct) : D := .arr 5 encAct l
abbrev encXAs (l : List SAct) : D := .arx 5 encAct l
def encScr (c : SCfg) (l : List (List POp)) (bs : List SAct) : D := .cons (encCfg c) (.cons (encPL l) (.cons (encAs bs) .nil))
abbrev encSh (n : Int) (l : List Int) : D := .cons (i6 n) (.cons (.arr 1 i6 l) .nil)
def nI (l : List Nat) : List Int := l.map fun (k : Nat) => (k : Int)
theorem nI_len (l : List Nat) : (nI l).length = l.length := by simp [nI]
theorem nI_app (a b : List Nat) : nI (a ++ b) = nI a ++ nI b := by simp [nI]
def padL (l : List Nat) : List Int := nI l ++ List.replicate (6 - l.length) 0
theorem padL_get {l : List Nat} (h : l.length < 6) : (padL l)[l.length]? = some 0 := by
 rw [padL, List.getElem?_append_right (by rw [nI_len]; omega), nI_len, Nat.sub_self, show 6 - l.length = (5 - l.length) + 1 by omega]
 rfl
theorem padL_set {l : List Nat} (c : Nat) (h : l.length < 6) : (padL l).set l.length (c : Int) = padL (l ++ [c]) := by
 rw [padL, padL, List.set_append_right _ _ (by rw [nI_len]; omega), nI_len, Nat.sub_self, show 6 - l.length = (6 - (l ++ [c]).length) + 1 by simp; omega, List.replicate_succ, List.set_cons_zero, nI_app, List.append_assoc]
 rfl
theorem padL_take {l : List Nat} : (padL l).take l.length = nI l := by
 rw [padL, ← nI_len, List.take_left]
theorem lvl_step {g c : Nat} (h1 : 1 ≤ c) (hc : c ≠ 1) (h2 : c ≤ 4 ^ g) : ∃ k, g = k + 1 ∧ (c + 3) / 4 ≤ 4 ^ k ∧ 1 ≤ (c + 3) / 4 := by
 cases g with
 | zero => simp at h2; omega
 | succ k => refine ⟨k, rfl, ?_, by omega⟩; rw [Nat.pow_succ] at h2; omega
theorem lvl_sum : ∀ f c, c ≤ 1024 → (lvl f c).sum ≤ (f + 1) * 1024
 | 0, c, h => by simp [lvl]; omega
 | f + 1, c, h => by
  rw [lvl]
  split
  ·simp; omega
  ·have := lvl_sum f ((c + 3) / 4) (by omega)
   simp only [List.sum_cons]; omega
theorem cnts_sum {n : Nat} (h : n ≤ 4096) : (cntsN n).sum ≤ 7168 := lvl_sum 6 _ (by omega)
theorem lvl_len4 : ∀ g c, 1 ≤ c → c ≤ 4 ^ g → (lvl (g + 1) c).length ≤ g + 1
 | g, c, h1, h2 => by
  by_cases hc : c = 1
  ·rw [lvl, if_pos hc]; simp
  ·obtain ⟨k, rfl, h3, h4⟩ := lvl_step h1 hc h2
   have := lvl_len4 k _ h4 h3
   rw [lvl, if_neg hc]
   simp only [List.length_cons]; omega
theorem cnts_len6 {n : Nat} (h1 : 1 ≤ n) (h2 : n ≤ 4096) : (cntsN n).length ≤ 6 := lvl_len4 5 _ (by omega) (by show (n + 3) / 4 ≤ 4 ^ 5; omega)
end Go.Proofs.YthiijfbcfoifnaaGreatDoor
namespace Go.Proofs.YthiijfbcfoifnaaGreatDoor
open Go.Eng Go.Plain
set_option maxHeartbeats 4000000
set_option maxRecDepth 20000
attribute [local irreducible] WC RegS RegD SeqQ BlkQ ScoQ RegK CutK Sat SatN FnIs LoopQ StepIs OpIs
abbrev shC (n : Int) : Int := if 1 ≤ n ∧ n ≤ 4096 then 0 else 1
theorem shchk_is (n : Int) : FnIs Tryz.prog 109 [.int .i64 n] [] (.int .i64 (shC n)) [] := by
 refine fnIs_of tab_ok Tryz.func109 rfl rfl rfl ?_
 by_cases h1 : n < 1
 ·have d1 : decide (n < 1) = true := dT h1
  rw [show shC n = 1 from if_neg (by omega)]
  refine sR ?_;refine rC ?_;refine nQ ?_;refine sR ?_;iterate 3 refine rC ?_
  iterate 2 refine rS ?_
  refine rQ iT ?_;refine nS ?_;refine wV ?_;refine sR ?_;refine rC ?_;refine nS ?_;refine wc_ret ?_;refine seq_r ?_
  exact ⟨trivial, [], lf⟩
 ·have d1 : decide (n < 1) = false := dF h1
  by_cases h2 : 4096 < n
  ·have d2 : decide (4096 < n) = true := dT h2
   rw [show shC n = 1 from if_neg (by omega)]
   refine sR ?_;refine rC ?_;refine nQ ?_;refine sR ?_;iterate 3 refine rC ?_
   refine rO ?_;refine rC ?_;refine rO ?_;refine rC ?_;refine rQ iF ?_;refine nS ?_;refine wT ?_;refine sR ?_;refine rC ?_;refine nS ?_;refine wc_ret ?_;refine seq_r ?_
   exact ⟨trivial, [], lf⟩
  ·have d2 : decide (4096 < n) = false := dF h2
   rw [show shC n = 0 from if_pos (by omega)]
   refine sR ?_;refine rC ?_;refine nQ ?_;refine sR ?_;iterate 3 refine rC ?_
   refine rO ?_;refine rC ?_;refine rO ?_;refine rC ?_;refine rQ iF ?_;refine nS ?_;refine wF ?_;refine kS ?_;refine sR ?_;refine rC ?_;refine nS ?_;refine wc_ret ?_
   exact ⟨trivial, [], lf⟩
theorem above_is (c : Nat) (hc : c ≤ 1000000) : FnIs Tryz.prog 135 [.int .i64 c] [] (.int .i64 ((c + 3) / 4 : Nat)) [] := by
 have hw : IntKind.i64.wrap (((c : Int) + 4 - 1).tdiv 4) = (((c + 3) / 4 : Nat) : Int) := by
  rw [show ((c : Int) + 4 - 1) = ((c + 3 : Nat) : Int) by omega]
  exact wrap_i64 (m := (((c + 3) / 4 : Nat) : Int)) (by omega) (by omega)
 refine fnIs_of tab_ok Tryz.func135 rfl rfl rfl ?_;refine sR ?_;refine rC ?_;refine nR ?_;refine rC ?_;refine rQ iD ?_;refine rQ (sub_int tab_ok rfl rfl (wrap_i64 (by omega) (by omega))) ?_
 refine rQ (quo_int (m := (((c + 3) / 4 : Nat) : Int)) tab_ok rfl rfl (by decide) hw) ?_;refine rC ?_;refine nS ?_;refine wc_ret ?_
 exact ⟨trivial, [], lf⟩
theorem counts_own (n : Nat) (h1 : 1 ≤ n) (h2 : n ≤ 4096) : FnIs Tryz.prog 110 [.int .i64 n] [] (.asl 64 [] (cntsN n).length 6) [(64, .box 53 (.d (.vec 6 1 i6 (padL (cntsN n)))))] := by
 have ha0 := above_is n (by omega)
 refine fnIs_of tab_ok Tryz.func110 rfl rfl rfl ?_;refine sR ?_;refine rC ?_;refine nR ?_;refine rN ?_;refine nR ?_;refine rQ (slice_ptr_0 (m := 0) (c := 6) tab_ok rfl rfl rfl rfl rfl rfl (by decide) (by decide)) ?_
 refine rC ?_;refine nR ?_;refine rC ?_;refine rQ (call_r ha0 rfl rfl (arg_e arg_nil) (.inl rfl) (fun _ => rfl)) ?_;refine rC ?_;refine nS ?_;refine wc_block ?_
 refine wc_inv (fun s : List Nat × Nat × Nat => ⟨[(5, .int .i64 s.2.1), (4, .asl 64 [] s.1.length 6)], [(64, some (.box 53 (.d (.vec 6 1 i6 (padL s.1)))))], 72, Tryz.f110.ntmps, 64⟩) (fun s => s.1 ++ lvl (s.2.2 + 1) s.2.1 = cntsN n ∧ s.1.length + s.2.2 = 5 ∧ 1 ≤ s.2.1 ∧ s.2.1 ≤ 4 ^ s.2.2) (fun s => s.2.2) ([], (n + 3) / 4, 5) [(64, some _)] ⟨rfl, rfl, by show 1 ≤ (n + 3) / 4; omega, by show (n + 3) / 4 ≤ 4 ^ 5; omega⟩
  (.of rfl rfl rfl rfl rfl ⟨⟨_, rfl, .refl _⟩, rfl, ⟨_, rfl, .refl _⟩, rfl, trivial⟩ ⟨⟨rfl, rfl, _, rfl, RowLe.box_d (DLe.chain_vec (fun _ _ _ _ h => by rw [h.1]; rfl) [(0 : Int), 0, 0, 0, 0, 0] _ rfl)⟩, trivial⟩) ?_
 rintro ⟨l, c, g⟩ ⟨hl, hg, hc1, hc2⟩
 simp only at hl hg hc1 hc2
 have h6 : l.length < 6 := by omega
 have hget := padL_get h6
 have hset := padL_set c h6
 have hlen : l.length + 1 = (l ++ [c]).length := by simp
 by_cases hc : c = 1
 ·have d1 : decide ((c : Int) = 1) = true := dT (by omega)
  have he : cntsN n = l ++ [c] := by rw [← hl, hc, lvl, if_pos rfl]
  refine wc_of ?_;refine wc_seq ?_;refine wc_block ?_;refine sR ?_;iterate 2 refine rC ?_
  refine reg_new (build_slice (s := 1) tab_ok rfl rfl rfl rfl rfl rfl rfl rfl) rfl ?_;refine reg_new (append_asl_in (s := 1) tab_ok rfl rfl rfl rfl rfl rfl rfl rfl h6 ⟨_, ⟨_, ⟨rfl, (0 : Int), (c : Int), hget, ⟨rfl, rfl, rfl⟩, rfl⟩, rfl⟩, rfl⟩) rfl ?_
  refine rC ?_;refine nR ?_;iterate 2 refine rC ?_
  refine nS ?_;refine wT ?_;refine sR ?_;iterate 2 refine rC ?_
  refine nS ?_;refine wc_ret ?_;refine blk_r ?_;refine seq_r ?_;refine loop_r ?_;refine blk_r ?_
  rw [he]
  exact ⟨trivial, [(64, some _)], .of rfl rfl rfl rfl rfl ⟨⟨_, rfl, AVLe.of_eq (by rw [hlen]; rfl)⟩, rfl, trivial⟩ ⟨⟨rfl, rfl, _, rfl, RowLe.of_eq (by rw [← hset]; rfl)⟩, trivial⟩⟩
 ·have d1 : decide ((c : Int) = 1) = false := dF (by omega)
  obtain ⟨k, rfl, hk1, hk2⟩ := lvl_step hc1 hc hc2
  have ha1 := above_is c (by
   have : 4 ^ (k + 1) ≤ 4 ^ 5 := Nat.pow_le_pow_right (by decide) (by omega)
   omega)
  refine wc_of ?_;refine wc_seq ?_;refine wc_block ?_;refine sR ?_;iterate 2 refine rC ?_
  refine reg_new (build_slice (s := 1) tab_ok rfl rfl rfl rfl rfl rfl rfl rfl) rfl ?_;refine reg_new (append_asl_in (s := 1) tab_ok rfl rfl rfl rfl rfl rfl rfl rfl h6 ⟨_, ⟨_, ⟨rfl, (0 : Int), (c : Int), hget, ⟨rfl, rfl, rfl⟩, rfl⟩, rfl⟩, rfl⟩) rfl ?_
  refine rC ?_;refine nR ?_;iterate 2 refine rC ?_
  refine nS ?_;refine wF ?_;refine wc_skip ?_;refine blk_n ?_;refine seq_n ?_;refine wc_region ?_;refine rC ?_;refine rQ (call_r ha1 rfl rfl (arg_e arg_nil) (.inl rfl) (fun _ => rfl)) ?_
  refine rC ?_;refine reg_nil ?_
  exact loop_n (l ++ [c], (c + 3) / 4, k) [] ⟨by rw [← hl]; show l ++ [c] ++ lvl (k + 1) ((c + 3) / 4) = l ++ lvl (k + 1 + 1) c; rw [show lvl (k + 1 + 1) c = c :: lvl (k + 1) ((c + 3) / 4) from by rw [lvl, if_neg hc], List.append_assoc]; rfl, by simp; omega, hk2, hk1⟩ (Nat.lt_succ_self k) (.of rfl rfl rfl rfl rfl ⟨⟨_, rfl, .refl _⟩, rfl, ⟨_, rfl, AVLe.of_eq (by rw [hlen]; rfl)⟩, rfl, trivial⟩ ⟨⟨rfl, rfl, _, rfl, RowLe.of_eq (by rw [← hset]; rfl)⟩, trivial⟩)
theorem counts_is (n : Nat) (h1 : 1 ≤ n) (h2 : n ≤ 4096) : FnIs Tryz.prog 110 [.int .i64 n] [] (.d (.arr 1 i6 (nI (cntsN n)))) [] := by
 have h6 : (cntsN n).length ≤ 6 := cnts_len6 h1 h2
 have := (counts_own n h1 h2).freeze_out (rows' := []) 64 _ rfl (Frz.asl h6 (Nat.le_refl 6) (by decide)) trivial
 rwa [padL_take] at this
theorem sh_zero : AVLe (.d (.cons (.sc (.int .i64 0)) (.cons (.sc nil_) .nil))) (.d (encSh 0 [])) := AVLe.d (by
 rintro w X cs ⟨c1, r1, rfl, h1, c2, r2, rfl, h2, h3⟩
 exact ⟨c1, _, rfl, h1, c2, r2, rfl, .inl ⟨rfl, h2.1⟩, h3⟩) rfl
abbrev ofL (n : Int) : List Int := if shC n = 0 then nI (cntsN n.toNat) else []
theorem of_ok (n : Int) (h1 : 1 ≤ n) (h2 : n ≤ 4096) : FnIs Tryz.prog 70 [.int .i64 n] [] (.tup (.acons (.d (encSh n (nI (cntsN n.toNat)))) (.acons (.int .i64 0) .anil))) [] := by
 have hct := counts_is n.toNat (by omega) (by omega)
 rw [show ((n.toNat : Nat) : Int) = n by omega] at hct
 have hsh : shC n = 0 := if_pos ⟨h1, h2⟩
 have hchk := shchk_is n
 rw [hsh] at hchk
 refine fnIs_of tab_ok Tryz.func70 rfl rfl rfl ?_;refine sR ?_;refine rN ?_;refine rC ?_;refine nQ ?_;refine sR ?_;refine rC ?_;refine rQ (call_r hchk rfl rfl (arg_e arg_nil) (.inl rfl) (fun _ => rfl)) ?_
 refine rC ?_;refine nR ?_;iterate 2 refine rC ?_
 refine nS ?_;refine wG ?_;refine kS ?_;refine sR ?_;iterate 2 refine rC ?_
 refine rQ (call_r hct rfl rfl (arg_e arg_nil) (.inl rfl) (fun _ => rfl)) ?_;refine rQ iS ?_;refine rW ?_;refine rC ?_;refine nS ?_;refine wc_ret ?_
 exact ⟨trivial, _, rfl, [], lf⟩
theorem of_bad (n : Int) (h : ¬ (1 ≤ n ∧ n ≤ 4096)) : FnIs Tryz.prog 70 [.int .i64 n] [] (.tup (.acons (.d (encSh 0 [])) (.acons (.int .i64 1) .anil))) [] := by
 have hsh : shC n = 1 := if_neg h
 have hchk := shchk_is n
 rw [hsh] at hchk
 refine fnIs_of tab_ok Tryz.func70 rfl rfl rfl ?_;refine sR ?_;refine rN ?_;refine rC ?_;refine nQ ?_;refine sR ?_;refine rC ?_;refine rQ (call_r hchk rfl rfl (arg_e arg_nil) (.inl rfl) (fun _ => rfl)) ?_
 refine rC ?_;refine nR ?_;iterate 2 refine rC ?_
 refine nS ?_;refine wV ?_;refine sR ?_;refine rQ iS ?_;refine rC ?_;refine rW ?_;refine rC ?_;refine nS ?_;refine wc_ret ?_;refine seq_r ?_
 exact ⟨trivial, _, rfl, [], .of rfl rfl rfl rfl rfl ⟨⟨_, rfl, AVLe.tup1 sh_zero rfl⟩, rfl, trivial⟩ trivial⟩
theorem base_is (m : Nat) (l : List Nat) (hm : m ≤ 1000000) (hs : l.sum ≤ 1000000) (hl : l.length ≤ 1000000) : FnIs Tryz.prog 71 [.d (encSh m (nI l)), .int .i64 l.length] [] (.int .i64 (2 * m + 2 * l.sum : Nat)) [] := by
 have hle : (l.length : Int) ≤ (nI l).length := by rw [nI_len]; exact Int.le_refl _
 have htk : (nI l).take ((l.length : Int)).toNat = nI l := by rw [Int.toNat_natCast, ← nI_len, List.take_length]
 refine fnIs_of tab_ok Tryz.func71 rfl rfl rfl ?_;refine sR ?_;refine rN ?_;refine rC ?_;refine nR ?_;refine rC ?_;refine rQ iB ?_;refine rQ (mul_int tab_ok rfl rfl (wrap_i64 (by omega) (by omega))) ?_
 refine rC ?_;refine nQ ?_;refine sR ?_;refine rC ?_;refine rQ iB ?_;refine rC ?_;refine rQ (slice_to (m := (l.length : Int)) tab_ok rfl rfl rfl rfl (by omega) hle) ?_
 refine rQ iE ?_;refine rC ?_;refine nS ?_;refine wc_block ?_
 rw [htk, nI_len]
 refine wc_inv (fun i : Nat => ⟨[(16, .int .i64 i), (15, .int .i64 l.length), (14, .d (.arr 1 i6 (nI l))), (5, .int .i64 (2 * m + 2 * (l.take i).sum : Nat))], [], 72, Tryz.f71.ntmps, 64⟩) (fun i => i ≤ l.length) (fun i => l.length - i) 0 [] (Nat.zero_le _)
  (.of rfl rfl rfl rfl rfl ⟨⟨_, rfl, .refl _⟩, rfl, ⟨_, rfl, .refl _⟩, rfl, ⟨_, rfl, .refl _⟩, rfl, ⟨_, rfl, AVLe.of_eq (by simp; rfl)⟩, rfl, trivial⟩ trivial) ?_
 intro i hi
 refine wc_of ?_;refine sR ?_;refine rC ?_;refine nQ ?_
 by_cases hlt : i < l.length
 ·have d1 : decide ((i : Int) < (l.length : Int)) = true := dT (by omega)
  obtain ⟨c, hc⟩ : ∃ c, l[i]? = some c := ⟨_, List.getElem?_eq_getElem hlt⟩
  have hq : (nI l)[((i : Int)).toNat]? = some (c : Int) := by rw [Int.toNat_natCast]; simp [nI, hc]
  have hts : (l.take (i + 1)).sum = (l.take i).sum + c := by rw [List.take_add_one, hc]; simp
  have hle2 : (l.take (i + 1)).sum ≤ l.sum := by
   conv => rhs; rw [← List.take_append_drop (i + 1) l, List.sum_append]
   exact Nat.le_add_right _ _
  refine wT ?_;refine kS ?_;refine wc_seq ?_;refine wc_block ?_;refine sR ?_;refine rQ (index_arr tab_ok rfl rfl rfl rfl rfl (by omega) hq) ?_;refine rQ iL ?_;refine rC ?_
  refine nS ?_;refine wc_region ?_;iterate 2 refine rC ?_
  refine rQ (mul_int tab_ok rfl rfl (wrap_i64 (by omega) (by omega))) ?_;refine rQ iD ?_;refine rC ?_;refine reg_nil ?_;refine blk_n ?_;refine seq_n ?_;refine wc_region ?_
  refine rQ iD ?_;refine rC ?_;refine reg_nil ?_
  exact loop_n (i + 1) [] hlt (by omega) (.of rfl rfl rfl rfl rfl ⟨⟨_, rfl, .refl _⟩, rfl, ⟨_, rfl, .refl _⟩, rfl, ⟨_, rfl, .refl _⟩, rfl, ⟨_, rfl, AVLe.of_eq (by rw [hts]; congr 3; omega)⟩, rfl, trivial⟩ trivial)
 ·have he : i = l.length := by omega
  subst he
  have d1 : decide ((l.length : Int) < (l.length : Int)) = false := dF (by omega)
  rw [List.take_length]
  refine wF ?_;refine wc_exit ?_;refine seq_x ?_;refine loop_x ?_;refine blk_x ?_;refine seq_n ?_;refine sR ?_;iterate 2 refine rC ?_
  refine nS ?_;refine wc_ret ?_
  exact ⟨trivial, [], lf⟩
theorem sectors_is (n : Int) (h1 : 1 ≤ n) (h2 : n ≤ 4096) : FnIs Tryz.prog 39 [.int .i64 n] [] (.tup (.acons (.int .i64 (sectN n.toNat)) (.acons (.int .i64 0) .anil))) [] := by
 have hof := of_ok n h1 h2
 have hs := cnts_sum (n := n.toNat) (by omega)
 have hl := cnts_len6 (n := n.toNat) (by omega) (by omega)
 have hb := base_is n.toNat (cntsN n.toNat) (by omega) (by omega) (by omega)
 rw [show ((n.toNat : Nat) : Int) = n by omega, ← nI_len] at hb
 refine fnIs_of tab_ok Tryz.func39 rfl rfl rfl ?_;refine sR ?_;iterate 2 refine rC ?_
 refine nR ?_;refine rC ?_;refine rQ (call_r hof rfl rfl (arg_e arg_nil) (.inl rfl) (fun _ => rfl)) ?_;iterate 3 refine rC ?_
 refine rN ?_;refine rW ?_;refine rC ?_;refine nQ ?_;refine sR ?_;iterate 2 refine rC ?_
 refine nS ?_;refine wG ?_;refine kS ?_;refine sR ?_;refine rQ iM ?_;refine rC ?_;refine rQ iB ?_;refine rQ iE ?_;refine rQ (call_r hb rfl rfl (arg_e (arg_e arg_nil)) (.inl rfl) (fun _ => rfl)) ?_
 iterate 2 refine rC ?_
 refine nS ?_;refine wc_ret ?_
 exact ⟨trivial, [], lf⟩
theorem height_is (n : Int) (h1 : 1 ≤ n) (h2 : n ≤ 4096) : FnIs Tryz.prog 61 [.int .i64 n] [] (.tup (.acons (.int .i64 (hgtN n.toNat)) (.acons (.int .i64 0) .anil))) [] := by
 have hof := of_ok n h1 h2
 have hl := cnts_len6 (n := n.toNat) (by omega) (by omega)
 have hne : 0 < (cntsN n.toNat).length := List.length_pos_iff.2 (lvl_ne _ _)
 have hw : IntKind.i64.wrap (((nI (cntsN n.toNat)).length : Int) - 1) = (hgtN n.toNat : Int) := by
  rw [nI_len, hgtN, wrap_i64 (by omega) (by omega)]; omega
 refine fnIs_of tab_ok Tryz.func61 rfl rfl rfl ?_;refine sR ?_;iterate 2 refine rC ?_
 refine nR ?_;refine rC ?_;refine rQ (call_r hof rfl rfl (arg_e arg_nil) (.inl rfl) (fun _ => rfl)) ?_;iterate 3 refine rC ?_
 refine rN ?_;refine rW ?_;refine rC ?_;refine nQ ?_;refine sR ?_;iterate 2 refine rC ?_
 refine nS ?_;refine wG ?_;refine kS ?_;refine sR ?_;refine rC ?_;refine rQ iB ?_;refine rQ iE ?_;refine rQ (sub_int (m := (hgtN n.toNat : Int)) tab_ok rfl rfl hw) ?_
 iterate 2 refine rC ?_
 refine nS ?_;refine wc_ret ?_
 exact ⟨trivial, [], lf⟩
theorem height_bad (n : Int) (h : ¬ (1 ≤ n ∧ n ≤ 4096)) : FnIs Tryz.prog 61 [.int .i64 n] [] (.tup (.acons (.int .i64 0) (.acons (.int .i64 1) .anil))) [] := by
 have hof := of_bad n h
 refine fnIs_of tab_ok Tryz.func61 rfl rfl rfl ?_;refine sR ?_;iterate 2 refine rC ?_
 refine nR ?_;refine rC ?_;refine rQ (call_r hof rfl rfl (arg_e arg_nil) (.inl rfl) (fun _ => rfl)) ?_;iterate 3 refine rC ?_
 refine rN ?_;refine rW ?_;refine rC ?_;refine nQ ?_;refine sR ?_;iterate 2 refine rC ?_
 refine nS ?_;refine wV ?_;refine sR ?_;iterate 3 refine rC ?_
 refine nS ?_;refine wc_ret ?_;refine seq_r ?_
 exact ⟨trivial, [], lf⟩
theorem lvl_head (f c : Nat) : (lvl f c)[0]? = some c := by
 cases f with
 | zero => rfl
 | succ f => rw [lvl]; split <;> rfl
theorem lvl_next : ∀ (f c i x : Nat), i + 1 < (lvl f c).length → (lvl f c)[i]? = some x → x ≠ 1 ∧ (lvl f c)[i + 1]? = some ((x + 3) / 4)
 | 0, c, i, x, h, _ => by simp [lvl] at h
 | f + 1, c, i, x, h, hx => by
  rw [lvl] at h hx ⊢
  by_cases hc : c = 1
  ·rw [if_pos hc] at h; simp at h
  ·rw [if_neg hc] at h hx ⊢
   cases i with
   | zero =>
    have : c = x := Option.some.inj hx
    subst this
    exact ⟨hc, by rw [List.getElem?_cons_succ]; exact lvl_head f _⟩
   | succ i =>
    rw [List.getElem?_cons_succ] at hx
    rw [List.getElem?_cons_succ]
    exact lvl_next f _ i x (by simpa using h) hx
theorem lvl_last : ∀ (g c : Nat), 1 ≤ c → c ≤ 4 ^ g → (lvl (g + 1) c)[(lvl (g + 1) c).length - 1]? = some 1
 | g, c, h1, h2 => by
  by_cases hc : c = 1
  ·rw [lvl, if_pos hc, hc]; rfl
  ·obtain ⟨k, rfl, h3, h4⟩ := lvl_step h1 hc h2
   have ih := lvl_last k _ h4 h3
   have hp : 0 < (lvl (k + 1) ((c + 3) / 4)).length := List.length_pos_iff.2 (lvl_ne _ _)
   rw [lvl, if_neg hc, List.length_cons, show (lvl (k + 1) ((c + 3) / 4)).length + 1 - 1 = ((lvl (k + 1) ((c + 3) / 4)).length - 1) + 1 by omega, List.getElem?_cons_succ]
   exact ih
theorem rcount12_is (n : Nat) (h2 : n ≤ 4096) (q x : Nat) (hx : (cntsN n)[q]? = some x) : FnIs Tryz.prog 146 [.int .i64 n, .int .i64 q] [] (.int .i64 x) [] := by
 have hql := (List.getElem?_eq_some_iff.1 hx).1
 have hll := lvl_len 6 ((n + 3) / 4)
 have hq7 : q < 7 := by unfold cntsN at hql; omega
 refine fnIs_of tab_ok Tryz.func146 rfl rfl rfl ?_;refine sR ?_;refine rC ?_;refine nR ?_;iterate 2 refine rC ?_
 refine nQ ?_;refine sR ?_;refine rC ?_;refine nS ?_;refine wc_block ?_
 refine wc_inv (fun s : Nat × Nat => ⟨[(6, .int .i64 s.1), (5, .int .i64 s.2), (1, .int .i64 q)], [], 64, Tryz.f146.ntmps, 64⟩) (fun s => s.1 ≤ q + 1 ∧ s.2 ≤ 5000 ∧ (s.1 = 0 → s.2 = n) ∧ (∀ j, s.1 = j + 1 → (cntsN n)[j]? = some s.2)) (fun s => q + 1 - s.1) (0, n) [] ⟨by omega, by omega, fun _ => rfl, fun j hj => by cases hj⟩
  (.of rfl rfl rfl rfl rfl ⟨⟨_, rfl, .refl _⟩, rfl, ⟨_, rfl, .refl _⟩, rfl, ⟨_, rfl, .refl _⟩, rfl, trivial⟩ trivial) ?_
 rintro ⟨l, c⟩ ⟨hl, hc, h0, hj⟩
 simp only at hl hc h0 hj
 have hw1 : IntKind.i64.wrap ((c : Int) + 3) = ((c + 3 : Nat) : Int) := by rw [show (c : Int) + 3 = ((c + 3 : Nat) : Int) by omega]; exact wrap_i64 (by omega) (by omega)
 have hw2 : IntKind.i64.wrap (((c + 3) / 4 : Nat) : Int) = (((c + 3) / 4 : Nat) : Int) := wrap_i64 (by omega) (by omega)
 refine wc_of ?_
 by_cases hlt : l ≤ q
 ·have d1 : decide ((l : Int) ≤ (q : Int)) = true := dT (by omega)
  cases l with
  | zero =>
   have hcn := h0 rfl
   have d2 : decide (0 < ((0 : Nat) : Int)) = false := rfl
   refine qR ?_;iterate 3 refine rC ?_
   refine nS ?_;refine wV ?_;refine kS ?_;refine wc_seq ?_;refine wc_block ?_;refine qR ?_;iterate 3 refine rC ?_
   iterate 2 refine rT ?_
   refine rQ iG ?_;refine nS ?_;refine wG ?_;refine kS ?_;refine wc_region ?_;refine rC ?_;refine rQ (add_int (m := ((c + 3 : Nat) : Int)) tab_ok rfl rfl hw1) ?_;refine rQ (quo_nat (a := c + 3) (b := 4) tab_ok rfl rfl rfl (by decide) hw2) ?_
   refine rC ?_;refine reg_nil ?_;refine blk_n ?_;refine seq_n ?_;refine wc_region ?_;refine rC ?_;refine rQ iD ?_;refine rC ?_;refine reg_nil ?_
   exact loop_n (0 + 1, (c + 3) / 4) [] ⟨by omega, by show (c + 3) / 4 ≤ 5000; omega, (fun h => by cases h), fun j h => by
    obtain rfl : j = 0 := by omega
    rw [hcn]; exact lvl_head 6 _⟩ (by show q + 1 - (0 + 1) < q + 1 - 0; omega) (.of rfl rfl rfl rfl rfl ⟨⟨_, rfl, .refl _⟩, rfl, ⟨_, rfl, .refl _⟩, rfl, ⟨_, rfl, .refl _⟩, rfl, trivial⟩ trivial)
  | succ l =>
   have hg := hj l rfl
   obtain ⟨hne, hnx⟩ := lvl_next 6 _ l c (by show l + 1 < (cntsN n).length; omega) hg
   have d2 : decide (0 < ((l + 1 : Nat) : Int)) = true := dT (by omega)
   have d3 : decide ((c : Int) = 1) = false := dF (by omega)
   refine qR ?_;iterate 3 refine rC ?_
   refine nS ?_;refine wT ?_;refine kS ?_;refine wc_seq ?_;refine wc_block ?_;refine qR ?_;iterate 3 refine rC ?_
   refine rO ?_;refine rC ?_;refine rO ?_;refine rC ?_;refine rQ iT ?_;refine nS ?_;refine wF ?_;refine kS ?_;refine wc_region ?_;refine rC ?_;refine rQ (add_int (m := ((c + 3 : Nat) : Int)) tab_ok rfl rfl hw1) ?_
   refine rQ (quo_nat (a := c + 3) (b := 4) tab_ok rfl rfl rfl (by decide) hw2) ?_;refine rC ?_;refine reg_nil ?_;refine blk_n ?_;refine seq_n ?_;refine wc_region ?_
   refine rC ?_;refine rQ iD ?_;refine rC ?_;refine reg_nil ?_
   exact loop_n (l + 1 + 1, (c + 3) / 4) [] ⟨by omega, by show (c + 3) / 4 ≤ 5000; omega, (fun h => by cases h), fun j h => by
    obtain rfl : j = l + 1 := by omega
    exact hnx⟩ (by show q + 1 - (l + 1 + 1) < q + 1 - (l + 1); omega) (.of rfl rfl rfl rfl rfl ⟨⟨_, rfl, .refl _⟩, rfl, ⟨_, rfl, .refl _⟩, rfl, ⟨_, rfl, .refl _⟩, rfl, trivial⟩ trivial)
 ·have he : l = q + 1 := by omega
  subst he
  have hg := hj q rfl
  rw [hx] at hg
  obtain rfl : x = c := Option.some.inj hg
  have d1 : decide (((q + 1 : Nat) : Int) ≤ (q : Int)) = false := dF (by omega)
  refine qR ?_;iterate 3 refine rC ?_
  refine nS ?_;refine wF ?_;refine wc_exit ?_;refine seq_x ?_;refine loop_x ?_;refine blk_x ?_;refine seq_n ?_;refine sR ?_;iterate 2 refine rC ?_
  refine nS ?_;refine wc_ret ?_
  exact ⟨trivial, [], lf⟩
theorem rheight12_is (n : Nat) (h1 : 1 ≤ n) (h2 : n ≤ 4096) : FnIs Tryz.prog 127 [.int .i64 n] [] (.int .i64 (hgtN n)) [] := by
 have hl6 := cnts_len6 h1 h2
 have hpos : 0 < (cntsN n).length := List.length_pos_iff.2 (lvl_ne _ _)
 have hlast : (cntsN n)[hgtN n]? = some 1 := lvl_last 5 _ (by omega) (by show (n + 3) / 4 ≤ 4 ^ 5; omega)
 refine fnIs_of tab_ok Tryz.func127 rfl rfl rfl ?_;refine sR ?_;refine rC ?_;refine nR ?_;refine rC ?_;refine nQ ?_;refine wc_block ?_
 refine wc_inv (fun i : Nat => ⟨[(3, .int .i64 i), (0, .int .i64 n)], [], 64, Tryz.f127.ntmps, 64⟩) (fun i => i ≤ hgtN n) (fun i => hgtN n - i) 0 [] (Nat.zero_le _)
  (.of rfl rfl rfl rfl rfl ⟨⟨_, rfl, .refl _⟩, rfl, ⟨_, rfl, .refl _⟩, rfl, trivial⟩ trivial) ?_
 intro i hi
 have hh : hgtN n = (cntsN n).length - 1 := rfl
 refine wc_of ?_
 by_cases hlt : i < hgtN n
 ·obtain ⟨x, hx⟩ : ∃ x, (cntsN n)[i]? = some x := ⟨_, List.getElem?_eq_getElem (by omega)⟩
  obtain ⟨hne, _⟩ := lvl_next 6 _ i x (by show i + 1 < (cntsN n).length; omega) hx
  have hct := rcount12_is n h2 i x hx
  have d1 : (!decide ((x : Int) = 1)) = true := by rw [dF (by omega)]; rfl
  refine qR ?_;iterate 2 refine rC ?_
  refine rQ (call_r hct rfl rfl (arg_e (arg_e arg_nil)) (.inl rfl) (fun _ => rfl)) ?_;refine rC ?_;refine nS ?_;refine wT ?_;refine kS ?_;refine wc_block ?_;refine wc_region ?_
  refine rC ?_;refine rQ iD ?_;refine rC ?_;refine reg_nil ?_;refine blk_n ?_
  exact loop_n (i + 1) [] hlt (by omega) (.of rfl rfl rfl rfl rfl ⟨⟨_, rfl, .refl _⟩, rfl, ⟨_, rfl, .refl _⟩, rfl, trivial⟩ trivial)
 ·have he : i = hgtN n := by omega
  rw [← he] at hlast ⊢
  have hct := rcount12_is n h2 i 1 hlast
  have d1 : (!decide ((((1 : Nat)) : Int) = 1)) = false := rfl
  refine qR ?_;iterate 2 refine rC ?_
  refine rQ (call_r hct rfl rfl (arg_e (arg_e arg_nil)) (.inl rfl) (fun _ => rfl)) ?_;refine rC ?_;refine nS ?_;refine wG ?_;refine wc_exit ?_;refine seq_x ?_;refine loop_x ?_
  refine blk_x ?_;refine seq_n ?_;refine sR ?_;iterate 2 refine rC ?_
  refine nS ?_;refine wc_ret ?_
  exact ⟨trivial, [], lf⟩
theorem within_is (n a b : Int) : FnIs Tryz.prog 62 [.int .i64 n, .int .i64 a, .int .i64 b] [] (.bool (decide (a ≤ n) && decide (n ≤ b))) [] := by
 refine fnIs_of tab_ok Tryz.func62 rfl rfl rfl ?_
 cases h1 : decide (a ≤ n) with
 | false =>
  refine sR ?_;refine rC ?_;refine nR ?_;iterate 4 refine rC ?_
  iterate 3 refine rS ?_
  refine rQ iF ?_;refine rC ?_;refine nS ?_;refine wc_ret ?_
  exact ⟨trivial, [], lf⟩
 | true =>
  refine sR ?_;refine rC ?_;refine nR ?_;iterate 4 refine rC ?_
  refine rO ?_;refine rC ?_;refine rO ?_;refine rC ?_;refine rO ?_;refine rC ?_;refine rQ iT ?_;refine rC ?_;refine nS ?_;refine wc_ret ?_
  exact ⟨trivial, [], lf⟩
theorem wchk_1 {c : SCfg} (h : ¬ (1 ≤ c.blocks ∧ c.blocks ≤ 4096) ∨ ¬ (1 ≤ c.shards ∧ c.shards ≤ min 8 c.blocks) ∨ ¬ (1 ≤ c.clients ∧ c.clients ≤ 8)) : wchk c = 7 := by rw [wchk, if_pos h]
theorem wchk_2 {c : SCfg} (h : ¬ (¬ (1 ≤ c.blocks ∧ c.blocks ≤ 4096) ∨ ¬ (1 ≤ c.shards ∧ c.shards ≤ min 8 c.blocks) ∨ ¬ (1 ≤ c.clients ∧ c.clients ≤ 8)))
  (h2 : ¬ (c.clients + 1 ≤ c.frames ∧ c.frames ≤ 64) ∨ c.shards * c.frames < 2 * c.clients + hgtN c.blocks.toNat + 1) : wchk c = 7 := by rw [wchk, if_neg h, if_pos h2]
theorem wchk_3 {c : SCfg} (h : ¬ (¬ (1 ≤ c.blocks ∧ c.blocks ≤ 4096) ∨ ¬ (1 ≤ c.shards ∧ c.shards ≤ min 8 c.blocks) ∨ ¬ (1 ≤ c.clients ∧ c.clients ≤ 8)))
  (h2 : ¬ (¬ (c.clients + 1 ≤ c.frames ∧ c.frames ≤ 64) ∨ c.shards * c.frames < 2 * c.clients + hgtN c.blocks.toNat + 1)) (h3 : c.reserve < 1 ∨ 4294967296 < c.reserve ∨ c.limit < c.reserve ∨ 5 < c.flaw) : wchk c = 7 := by rw [wchk, if_neg h, if_neg h2, if_pos h3]
theorem wchk_4 {c : SCfg} (h : ¬ (¬ (1 ≤ c.blocks ∧ c.blocks ≤ 4096) ∨ ¬ (1 ≤ c.shards ∧ c.shards ≤ min 8 c.blocks) ∨ ¬ (1 ≤ c.clients ∧ c.clients ≤ 8)))
  (h2 : ¬ (¬ (c.clients + 1 ≤ c.frames ∧ c.frames ≤ 64) ∨ c.shards * c.frames < 2 * c.clients + hgtN c.blocks.toNat + 1)) (h3 : ¬ (c.reserve < 1 ∨ 4294967296 < c.reserve ∨ c.limit < c.reserve ∨ 5 < c.flaw)) : wchk c = 0 := by rw [wchk, if_neg h, if_neg h2, if_neg h3]
theorem wcheck_is (c : SCfg) (hok : c.Ok) : FnIs Tryz.prog 29 [.d (encCfg c)] [] (.int .i64 (wchk c)) [] := by
 obtain ⟨⟨a1, a2⟩, ⟨a3, a4⟩, ⟨a5, a6⟩, ⟨a7, a8⟩, ⟨b1, b2⟩, ⟨b3, b4⟩, hm32, hf0, hf1⟩ := hok
 refine fnIs_of tab_ok Tryz.func29 rfl rfl rfl ?_
 by_cases hb : 1 ≤ c.blocks ∧ c.blocks ≤ 4096
 ·have hh := height_is c.blocks hb.1 hb.2
  have hi1 := within_is c.shards 1 (min 8 c.blocks)
  have hi2 := within_is c.clients 1 8
  obtain ⟨w1, hw1⟩ : ∃ b, (decide (1 ≤ c.shards) && decide (c.shards ≤ min 8 c.blocks)) = b := ⟨_, rfl⟩
  obtain ⟨w2, hw2⟩ : ∃ b, (decide (1 ≤ c.clients) && decide (c.clients ≤ 8)) = b := ⟨_, rfl⟩
  rw [hw1] at hi1
  rw [hw2] at hi2
  refine sR ?_;refine rN ?_;refine rC ?_;refine nR ?_;refine rC ?_;refine rQ iB ?_;refine rQ (call_r hh rfl rfl (arg_e arg_nil) (.inl rfl) (fun _ => rfl)) ?_;iterate 5 refine rC ?_
  refine nR ?_;refine rC ?_;refine nQ ?_;refine wc_block ?_;refine sR ?_;iterate 3 refine rC ?_
  refine rP ?_;refine rC ?_;refine rP ?_;refine rC ?_;refine rP ?_;refine rQ iB ?_;refine rP ?_;refine rC ?_;refine rP ?_;refine rQ iB ?_;refine rP ?_;refine rQ (min_int (m := min 8 c.blocks) rfl rfl rfl) ?_
  refine rP ?_;refine rQ (call_r hi1 rfl rfl (arg_e (arg_e (arg_e arg_nil))) (.inl rfl) (fun _ => rfl)) ?_;refine rP ?_;refine rC ?_;refine rQ iG ?_;refine rC ?_
  cases w1 with
  | false =>
   rw [wchk_1 (.inr (.inl (by simpa using hw1)))]
   iterate 5 refine rT ?_
   refine rQ iU ?_;refine rC ?_;refine nS ?_;refine wV ?_;refine sR ?_;refine rC ?_;refine nS ?_;refine wc_ret ?_;refine blk_r ?_;refine seq_r ?_
   exact ⟨trivial, [], lf⟩
  | true =>
   refine rP ?_;refine rC ?_;refine rP ?_;refine rC ?_;refine rP ?_;refine rQ iB ?_;refine rP ?_;refine rQ (call_r hi2 rfl rfl (arg_e (arg_e (arg_e arg_nil))) (.inl rfl) (fun _ => rfl)) ?_
   refine rP ?_;refine rC ?_;refine rQ iG ?_;refine rC ?_;refine nS ?_
   cases w2 with
   | false =>
    rw [wchk_1 (.inr (.inr (by simpa using hw2)))]
    refine wV ?_;refine sR ?_;refine rC ?_;refine nS ?_;refine wc_ret ?_;refine blk_r ?_;refine seq_r ?_
    exact ⟨trivial, [], lf⟩
   | true =>
    simp only [Bool.and_eq_true, decide_eq_true_eq] at hw1 hw2
    have hs8 : c.shards ≤ 8 := Int.le_trans hw1.2 (Int.min_le_left _ _)
    have hi3 := within_is c.frames (c.clients + 1) 64
    obtain ⟨w3, hw3⟩ : ∃ b, (decide (c.clients + 1 ≤ c.frames) && decide (c.frames ≤ 64)) = b := ⟨_, rfl⟩
    rw [hw3] at hi3
    have hn1 : ¬ (¬ (1 ≤ c.blocks ∧ c.blocks ≤ 4096) ∨ ¬ (1 ≤ c.shards ∧ c.shards ≤ min 8 c.blocks) ∨ ¬ (1 ≤ c.clients ∧ c.clients ≤ 8)) := by
     rintro (h | h | h)
     ·exact h hb
     ·exact h hw1
     ·exact h hw2
    refine wG ?_;refine sR ?_;iterate 2 refine rC ?_
    refine rQ iB ?_;refine rC ?_;refine rQ iB ?_;refine rQ iD ?_;refine rQ (call_r hi3 rfl rfl (arg_e (arg_e (arg_e arg_nil))) (.inl rfl) (fun _ => rfl)) ?_;iterate 2 refine rC ?_
    cases w3 with
    | false =>
     rw [wchk_2 hn1 (.inl (by simpa using hw3))]
     iterate 12 refine rT ?_
     refine rQ iU ?_;refine rC ?_;refine nS ?_;refine wV ?_;refine sR ?_;refine rC ?_;refine nS ?_;refine wc_ret ?_;refine blk_r ?_;refine seq_r ?_
     exact ⟨trivial, [], lf⟩
    | true =>
     simp only [Bool.and_eq_true, decide_eq_true_eq] at hw3
     have hml : 0 ≤ c.shards * c.frames ∧ c.shards * c.frames ≤ 512 := by
      refine ⟨Int.mul_nonneg (by omega) (by omega), ?_⟩
      have := Int.mul_le_mul hs8 hw3.2 (by omega) (by omega)
      simpa using this
     have hm : IntKind.i64.wrap (c.shards * c.frames) = c.shards * c.frames := wrap_i64 (by omega) (by omega)
     have hgl : hgtN c.blocks.toNat ≤ 7 := by
      have := cnts_len6 (n := c.blocks.toNat) (by omega) (by omega)
      unfold hgtN; omega
     by_cases hlt : c.shards * c.frames < 2 * c.clients + hgtN c.blocks.toNat + 1
     ·have d1 : decide (c.shards * c.frames < 2 * c.clients + (hgtN c.blocks.toNat : Int) + 1) = true := dT hlt
      rw [wchk_2 hn1 (.inr hlt)]
      refine rP ?_;refine rC ?_;refine rP ?_;refine rQ iB ?_;refine rP ?_;refine rC ?_;refine rP ?_;refine rQ iB ?_;refine rP ?_;refine rQ (mul_int (m := c.shards * c.frames) tab_ok rfl rfl hm) ?_
      refine rP ?_;refine rC ?_;refine rP ?_;refine rQ iB ?_;refine rP ?_;refine rQ (mul_int tab_ok rfl rfl (wrap_i64 (by omega) (by omega))) ?_;refine rP ?_;refine rC ?_
      refine rP ?_;refine rQ iD ?_;refine rP ?_;refine rQ iD ?_;refine rP ?_;refine rC ?_;refine rQ iG ?_;refine rC ?_;refine nS ?_;refine wT ?_;refine sR ?_;refine rC ?_
      refine nS ?_;refine wc_ret ?_;refine blk_r ?_;refine seq_r ?_
      exact ⟨trivial, [], lf⟩
     ·have d1 : decide (c.shards * c.frames < 2 * c.clients + (hgtN c.blocks.toNat : Int) + 1) = false := dF hlt
      have hn2 : ¬ (¬ (c.clients + 1 ≤ c.frames ∧ c.frames ≤ 64) ∨ c.shards * c.frames < 2 * c.clients + hgtN c.blocks.toNat + 1) := by
       rintro (h | h)
       ·exact h hw3
       ·exact hlt h
      refine rP ?_;refine rC ?_;refine rP ?_;refine rQ iB ?_;refine rP ?_;refine rC ?_;refine rP ?_;refine rQ iB ?_;refine rP ?_;refine rQ (mul_int (m := c.shards * c.frames) tab_ok rfl rfl hm) ?_
      refine rP ?_;refine rC ?_;refine rP ?_;refine rQ iB ?_;refine rP ?_;refine rQ (mul_int tab_ok rfl rfl (wrap_i64 (by omega) (by omega))) ?_;refine rP ?_;refine rC ?_
      refine rP ?_;refine rQ iD ?_;refine rP ?_;refine rQ iD ?_;refine rP ?_;refine rC ?_;refine rQ iG ?_;refine rC ?_;refine nS ?_;refine wF ?_;refine sR ?_;refine rC ?_
      refine rQ iB ?_;iterate 2 refine rC ?_
      by_cases hr1 : c.reserve < 1
      ·have e1 : decide (c.reserve < 1) = true := dT hr1
       rw [wchk_3 hn1 hn2 (.inl hr1)]
       iterate 3 refine rS ?_
       refine rQ iT ?_;refine rC ?_;iterate 5 refine rT ?_
       refine rQ iU ?_;refine rC ?_;iterate 3 refine rT ?_
       refine rQ iU ?_;refine rC ?_;refine nS ?_;refine wV ?_;refine sR ?_;refine rC ?_;refine nS ?_;refine wc_ret ?_;refine blk_r ?_;refine seq_r ?_
       exact ⟨trivial, [], lf⟩
      have e1 : decide (c.reserve < 1) = false := dF hr1
      refine rO ?_;refine rC ?_;refine rO ?_;refine rQ iB ?_;refine rO ?_;refine rC ?_;refine rQ iF ?_;refine rC ?_
      by_cases hr2 : 4294967296 < c.reserve
      ·have e2 : decide (4294967296 < c.reserve) = true := dT hr2
       rw [wchk_3 hn1 hn2 (.inr (.inl hr2))]
       iterate 5 refine rS ?_
       refine rQ iT ?_;refine rC ?_;iterate 3 refine rT ?_
       refine rQ iU ?_;refine rC ?_;refine nS ?_;refine wV ?_;refine sR ?_;refine rC ?_;refine nS ?_;refine wc_ret ?_;refine blk_r ?_;refine seq_r ?_
       exact ⟨trivial, [], lf⟩
      have e2 : decide (4294967296 < c.reserve) = false := dF hr2
      refine rO ?_;refine rC ?_;refine rO ?_;refine rQ iB ?_;refine rO ?_;refine rC ?_;refine rO ?_;refine rQ iB ?_;refine rO ?_;refine rC ?_;refine rQ iF ?_;refine rC ?_
      by_cases hr3 : c.limit < c.reserve
      ·have e3 : decide (c.limit < c.reserve) = true := dT hr3
       rw [wchk_3 hn1 hn2 (.inr (.inr (.inl hr3)))]
       iterate 3 refine rS ?_
       refine rQ iT ?_;refine rC ?_;refine nS ?_;refine wV ?_;refine sR ?_;refine rC ?_;refine nS ?_;refine wc_ret ?_;refine blk_r ?_;refine seq_r ?_
       exact ⟨trivial, [], lf⟩
      have e3 : decide (c.limit < c.reserve) = false := dF hr3
      refine rO ?_;refine rC ?_;refine rO ?_;refine rQ iB ?_;refine rO ?_;refine rC ?_;refine rQ iF ?_;refine rC ?_;refine nS ?_
      by_cases hr4 : 5 < c.flaw
      ·have e4 : decide (5 < c.flaw) = true := dT hr4
       rw [wchk_3 hn1 hn2 (.inr (.inr (.inr hr4)))]
       refine wT ?_;refine sR ?_;refine rC ?_;refine nS ?_;refine wc_ret ?_;refine blk_r ?_;refine seq_r ?_
       exact ⟨trivial, [], lf⟩
      have e4 : decide (5 < c.flaw) = false := dF hr4
      rw [wchk_4 hn1 hn2 (by rintro (h | h | h | h) <;> omega)]
      refine wF ?_;refine wc_skip ?_;refine blk_n ?_;refine seq_n ?_;refine sR ?_;refine rC ?_;refine nS ?_;refine wc_ret ?_
      exact ⟨trivial, [], lf⟩
 ·have hh := height_bad c.blocks hb
  rw [wchk_1 (.inl hb)]
  refine sR ?_;refine rN ?_;refine rC ?_;refine nR ?_;refine rC ?_;refine rQ iB ?_;refine rQ (call_r hh rfl rfl (arg_e arg_nil) (.inl rfl) (fun _ => rfl)) ?_;iterate 5 refine rC ?_
  refine nR ?_;refine rC ?_;refine nQ ?_;refine wc_block ?_;refine sR ?_;iterate 3 refine rC ?_
  iterate 8 refine rT ?_
  refine rQ iU ?_;refine rC ?_;iterate 5 refine rT ?_
  refine rQ iU ?_;refine rC ?_;refine nS ?_;refine wV ?_;refine sR ?_;refine rC ?_;refine nS ?_;refine wc_ret ?_;refine blk_r ?_;refine seq_r ?_
  exact ⟨trivial, [], lf⟩
end Go.Proofs.YthiijfbcfoifnaaGreatDoor
namespace Go.Plain
open Go.Eng Go.Lib
def valF (a : Nat) (w : List UInt8) : Nat := w.foldl (fun n b => 10 * n + (b.toNat - 48)) a
def valN (w : List UInt8) : Nat := valF 0 w
def Digs (w : List UInt8) : Prop := ∀ b ∈ w, 48 ≤ b.toNat ∧ b.toNat ≤ 57
def NumOk (w : List UInt8) : Prop := w ≠ [] ∧ w.length ≤ 20 ∧ ¬ (1 < w.length ∧ w.head? = some 48) ∧ Digs w ∧ valN w < 18446744073709551616
theorem fill_set {α : Type} (a z : α) (i N : Nat) (h : i < N) : (List.replicate i a ++ List.replicate (N - i) z).set i a = List.replicate (i + 1) a ++ List.replicate (N - (i + 1)) z := by
 rw [List.set_append_right _ _ (by simp), List.length_replicate, Nat.sub_self, show N - i = (N - (i + 1)) + 1 by omega, List.replicate_succ, List.set_cons_zero, List.replicate_succ', List.append_assoc]
 rfl
theorem fill_get {α : Type} (a z : α) (i N : Nat) (h : i < N) : (List.replicate i a ++ List.replicate (N - i) z)[i]? = some z := by
 rw [List.getElem?_append_right (by simp), List.length_replicate, Nat.sub_self, show N - i = (N - (i + 1)) + 1 by omega, List.replicate_succ]; rfl
end Go.Plain
