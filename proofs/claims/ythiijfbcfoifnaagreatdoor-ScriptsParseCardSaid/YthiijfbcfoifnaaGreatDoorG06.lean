/- Texts of the proof: Z14, Z15, PV0, Eng85, Z16, Eng94, PZ, Z24, ZR, Z25, Z26, Z27, Z28, Z29, Z30. -/
import Derived.Test.YthiijfbcfoifnaaGreatDoorG05
import Derived.Test.YthiijfbcfoifnaaGreatDoorG04
import Derived.Test.YthiijfbcfoifnaaGreatDoorG02

set_option linter.unusedVariables false
set_option linter.unusedSimpArgs false
set_option linter.unusedSectionVars false

namespace Go.Proofs.YthiijfbcfoifnaaGreatDoor
open Go.Eng Go.Plain Go.RowKit
set_option maxHeartbeats 4000000
set_option maxRecDepth 20000
attribute [local irreducible] WC RegS RegD SeqQ BlkQ ScoQ RegK CutK Sat SatN FnIs LoopQ StepIs OpIs
theorem suffix_last (l : List UInt8) (c : UInt8) : Lib.hasSuffix l [c] = decide (l.getLast? = some c) := by
 rw [Bool.eq_iff_iff, decide_eq_true_eq, Lib.hasSuffix, List.isSuffixOf_iff_suffix, List.getLast?_eq_some_iff]
 exact ⟨fun ⟨t, h⟩ => ⟨t, h.symm⟩, fun ⟨t, h⟩ => ⟨t, h.symm⟩⟩
theorem suffix_is {l : List UInt8} (c : UInt8) (hl : l.length ≤ 9223372036854775807) : FnIs Tryz.prog 45 [.d (strD l), .d (strD [c])] [] (.bool (decide (l.getLast? = some c))) [] :=
 .of_calls1 rfl ⟨_, Tryz.func45, by kernel_rfl, by kernel_rfl⟩ fun σ w X vs ha hg => by
  rw [ha.two]
  refine (Tryz.strings_HasSuffix (mkS l) (mkS [c]) w (by rw [mkS_size]; exact hl)).mono ?_
  rintro e w' ⟨rfl, rfl⟩
  exact ⟨by rw [mkS_data, mkS_data, suffix_last], Below.refl _ _⟩
theorem index_is (ls : List (List UInt8)) (v : List UInt8) (hL : ls.length ≤ 1000000000) : FnIs Tryz.prog 48 [.d (.arr 1 strD ls), .d (strD v)] [] (.int .i64 (idxF (fun x => x == v) ls)) [] := by
 refine fnIs_of tab_ok Tryz.func48 rfl rfl rfl ?_;refine sR ?_;refine rC ?_;refine nQ ?_;refine sR ?_;refine rC ?_;refine rQ iE ?_;refine rC ?_;refine nS ?_;refine wc_block ?_
 refine wc_inv (fun i : Nat => ⟨[(8, .int .i64 i), (7, .int .i64 ls.length), (1, .d (strD v)), (0, .d (.arr 1 strD ls))], [], 72, Tryz.f48.ntmps, 64⟩) (fun i => i ≤ ls.length ∧ ∀ j, j < i → ∀ y, ls[j]? = some y → (y == v) = false) (fun i => ls.length - i) 0 [] ⟨Nat.zero_le _, fun j hj => absurd hj (Nat.not_lt_zero _)⟩
  (.of rfl rfl rfl rfl rfl ⟨⟨_, rfl, .refl _⟩, rfl, ⟨_, rfl, .refl _⟩, rfl, ⟨_, rfl, .refl _⟩, rfl, ⟨_, rfl, .refl _⟩, rfl, trivial⟩ trivial) ?_
 rintro i ⟨hi, hno⟩
 refine wc_of ?_;refine sR ?_;refine rC ?_;refine nQ ?_
 by_cases hlt : i < ls.length
 ·have d1 : decide ((i : Int) < (ls.length : Int)) = true := dT (by omega)
  obtain ⟨x, hx⟩ : ∃ x, ls[i]? = some x := ⟨_, List.getElem?_eq_getElem hlt⟩
  have hx2 : ls[((i : Int)).toNat]? = some x := by rw [Int.toNat_natCast]; exact hx
  by_cases he : v = x
  ·have d2 : decide (v = x) = true := dT he
   rw [idxF_some hx (p := fun x => x == v) (by simp [he]) hno]
   refine wT ?_;refine kS ?_;refine wc_seq ?_;refine wc_block ?_;refine sR ?_;iterate 2 refine rC ?_
   refine nR ?_;iterate 3 refine rC ?_
   refine rQ (index_arr tab_ok rfl rfl rfl rfl rfl (by omega) hx2) ?_;refine rQ iL ?_;refine rQ (eql_s (a := v) (b := x) tab_ok rfl rfl rfl) ?_;refine nS ?_;refine wT ?_
   refine sR ?_;iterate 2 refine rC ?_
   refine nS ?_;refine wc_ret ?_;refine blk_r ?_;refine seq_r ?_;refine loop_r ?_;refine blk_r ?_;refine seq_r ?_
   exact ⟨trivial, [], lf⟩
  ·have d2 : decide (v = x) = false := dF he
   refine wT ?_;refine kS ?_;refine wc_seq ?_;refine wc_block ?_;refine sR ?_;iterate 2 refine rC ?_
   refine nR ?_;iterate 3 refine rC ?_
   refine rQ (index_arr tab_ok rfl rfl rfl rfl rfl (by omega) hx2) ?_;refine rQ iL ?_;refine rQ (eql_s (a := v) (b := x) tab_ok rfl rfl rfl) ?_;refine nS ?_;refine wF ?_
   refine wc_skip ?_;refine blk_n ?_;refine seq_n ?_;refine wc_region ?_;refine rQ iD ?_;refine rC ?_;refine reg_nil ?_
   exact loop_n (i + 1) [] ⟨hlt, fun j hj y hy => by
    by_cases e : j = i
    ·subst e; rw [hx] at hy; cases hy; simpa using fun h => he h.symm
    ·exact hno j (by omega) y hy⟩ (by omega) (.of rfl rfl rfl rfl rfl ⟨⟨_, rfl, .refl _⟩, rfl, ⟨_, rfl, .refl _⟩, rfl, ⟨_, rfl, .refl _⟩, rfl, ⟨_, rfl, .refl _⟩, rfl, trivial⟩ trivial)
 ·have he : i = ls.length := by omega
  subst he
  have d1 : decide ((ls.length : Int) < (ls.length : Int)) = false := dF (by omega)
  rw [idxF_none (p := fun x => x == v) (fun j y hy => hno j ((List.getElem?_eq_some_iff.1 hy).1) y hy)]
  refine wF ?_;refine wc_exit ?_;refine seq_x ?_;refine loop_x ?_;refine blk_x ?_;refine seq_n ?_;refine sR ?_;refine rC ?_;refine nS ?_;refine wc_ret ?_
  exact ⟨trivial, [], lf⟩
theorem clipA_is (l : List SAct) : FnIs Tryz.prog 50 [.d (encAs l)] [] (.d (encXAs l)) [] := by
 refine fnIs_of tab_ok Tryz.func50 rfl rfl rfl ?_;refine sR ?_;refine rC ?_;refine nR ?_;iterate 2 refine rC ?_
 refine rQ iE ?_;refine rC ?_;refine rQ iE ?_;refine rQ (slice_clip_arr tab_ok rfl rfl rfl rfl rfl) ?_;refine rC ?_;refine nS ?_;refine wc_ret ?_
 exact ⟨trivial, [], lf⟩
end Go.Proofs.YthiijfbcfoifnaaGreatDoor
namespace Go.Proofs.YthiijfbcfoifnaaGreatDoor
open Go.Eng Go.Plain
set_option maxHeartbeats 8000000
set_option maxRecDepth 20000
attribute [local irreducible] WC RegS RegD SeqQ BlkQ ScoQ RegK CutK Sat SatN FnIs LoopQ StepIs OpIs
abbrev encScrX (c : SCfg) (l : List (List POp)) (bs : List SAct) : D := .cons (encCfg c) (.cons (.arx 1 encXP l) (.cons (encXAs bs) .nil))
abbrev parSA (x : SScr) (n : Nat) (e : Int) : AV := .tup (.acons (.d (encScrX x.1 x.2.1 x.2.2)) (.acons (.int .i64 n) (.acons (.d (i6 e)) .anil)))
theorem z30_le : DLe r30.zero (encScrX zCfg [] []) := DLe.cons (DLe.of_eq rfl) (DLe.cons (DLe.nil_arx _ _) (DLe.cons (DLe.nil_arx _ _) (.refl _)))
theorem xl_le (l : List (List POp)) : DLe (.arx 1 encXP l) (encPL l) := fun _ _ cs h => Enc.arx_arr (fun _ c hc => Enc.arx_arr (fun _ _ h => h) c hc) cs h
theorem xs_le (c : SCfg) (l : List (List POp)) (bs : List SAct) : DLe (encScrX c l bs) (encScr c l bs) := DLe.cons (.refl _) (DLe.cons (xl_le l) (DLe.cons DLe.arx_arr (.refl _)))
theorem split3 {t : TypeId} {a b x r : D} : RowLe (.box t (.d (.cons a (.cons b (.cons x r))))) (.box t (.acons (.d a) (.acons (.d b) (.acons (.d x) (.d r))))) := by
 rintro σ w X q ⟨_, b', cs, h1, h2, h3⟩
 exact ⟨rfl, b', cs, h1, h2, h3⟩
theorem sparse_long (t : List UInt8) (h : 1048576 < t.length) : FnIs Tryz.prog 15 [.d (strD t)] [] (parSA zScr 0 3) [] := by
 have hd : decide (1048576 < (t.length : Int)) = true := dT (by omega)
 refine fnIs_of tab_ok Tryz.func15 rfl rfl rfl ?_;refine sR ?_;refine rN ?_;iterate 2 refine rC ?_
 refine nQ ?_;refine sR ?_;refine rC ?_;refine rQ (len_s tab_ok rfl rfl) ?_;refine rC ?_;refine nS ?_;refine wT ?_;refine sR ?_;refine rQ iS ?_;refine rW ?_;iterate 2 refine rC ?_
 refine nS ?_;refine wc_ret ?_;refine seq_r ?_
 exact ⟨trivial, _, rfl, [], .of rfl rfl rfl rfl rfl ⟨⟨_, rfl, AVLe.tup1 (AVLe.d z30_le rfl) rfl⟩, rfl, trivial⟩ trivial⟩
theorem sparse_nosuf (t : List UInt8) (h : t.length ≤ 1048576) (hlast : t.getLast? ≠ some 10) : FnIs Tryz.prog 15 [.d (strD t)] [] (parSA zScr 0 5) [] := by
 have hd : decide (1048576 < (t.length : Int)) = false := dF (by omega)
 have hsuf := suffix_is (l := t) 10 (by omega)
 rw [dF hlast] at hsuf
 refine fnIs_of tab_ok Tryz.func15 rfl rfl rfl ?_;refine sR ?_;refine rN ?_;iterate 2 refine rC ?_
 refine nQ ?_;refine sR ?_;refine rC ?_;refine rQ (len_s tab_ok rfl rfl) ?_;refine rC ?_;refine nS ?_;refine wF ?_;refine kS ?_;refine qR ?_;refine rC ?_;refine rQ (call_r hsuf rfl rfl (arg_e (arg_e arg_nil)) (.inl rfl) (fun _ => rfl)) ?_
 refine rC ?_;refine nS ?_;refine wV ?_;refine sR ?_;refine rQ iS ?_;refine rW ?_;iterate 2 refine rC ?_
 refine nS ?_;refine wc_ret ?_;refine seq_r ?_
 exact ⟨trivial, _, rfl, [], .of rfl rfl rfl rfl rfl ⟨⟨_, rfl, AVLe.tup1 (AVLe.d z30_le rfl) rfl⟩, rfl, trivial⟩ trivial⟩
theorem linesT_app (a b : List (List UInt8)) : linesT (a ++ b) = linesT a ++ linesT b := by simp [linesT]
theorem linesT_take (l : List (List UInt8)) (i : Nat) : (linesT (l.take i)).length ≤ (linesT l).length := by
 have := congrArg List.length (linesT_app (l.take i) (l.drop i))
 rw [List.take_append_drop, List.length_append] at this
 omega
theorem linesT_drop (l : List (List UInt8)) (i : Nat) : (linesT (l.drop i)).length ≤ (linesT l).length := by
 have := congrArg List.length (linesT_app (l.take i) (l.drop i))
 rw [List.take_append_drop, List.length_append] at this
 omega
def preA (bs : List SAct) : List SAct ⊕ Nat → List SAct ⊕ Nat
 | .inl l => .inl (bs ++ l)
 | .inr j => .inr j
theorem preA_nil (x : List SAct ⊕ Nat) : preA [] x = x := by cases x <;> rfl
theorem preA_cons (bs : List SAct) (a : SAct) (x : List SAct ⊕ Nat) : preA bs (match x with
  | .inl l => .inl (a :: l)
  | .inr j => .inr j) = preA (bs ++ [a]) x := by cases x <;> simp [preA]
theorem parse_num : ∀ (k : Nat) (s : List UInt8) (l m : List (List POp)) (n j : Nat) (e : Int), s.length ≤ k → parseP s l n = (m, j, e) → j ≤ n + s.length := by
 intro k
 induction k with
 | zero =>
  intro s l m n j e hs h
  have : s = [] := List.length_eq_zero_iff.1 (by omega)
  subst this
  rw [parseP_nil] at h
  cases h
  omega
 | succ k ih =>
  intro s l m n j e hs h
  by_cases hs0 : s = []
  ·subst hs0
   rw [parseP_nil] at h
   cases h
   omega
  ·cases hcut : cutL s 10 with
   | none => rw [parseP_none l _ hs0 hcut] at h; cases h; omega
   | some pq =>
    obtain ⟨t, r⟩ := pq
    rw [parseP_some l _ hs0 hcut] at h
    have hsr := congrArg List.length (cutL_some hcut).1
    simp only [List.length_append, List.length_cons] at hsr
    split at h
    ·have := ih r _ m _ j e (by omega) h
     omega
    ·cases h; omega
abbrev R0 : D := .cons (.sc nil_) (.cons (.sc nil_) .nil)
abbrev rowA (c : SCfg) (l : List (List POp)) (bs : List SAct) (r : Nat) : Row := .box 30 (.acons (.d (encCfg c)) (.acons (.d (.arx 1 encXP l)) (.acons (.own r 0 bs.length 5 none) (.d .nil))))
theorem sparse_main (t : List UInt8) (h : t.length ≤ 1048576) (hlast : t.getLast? = some 10) : FnIs Tryz.prog 15 [.d (strD t)] [] (parSA (parseLs (splitL t.dropLast 10)).1 (parseLs (splitL t.dropLast 10)).2.1 (parseLs (splitL t.dropLast 10)).2.2) [] := by
 have hd : decide (1048576 < (t.length : Int)) = false := dF (by omega)
 have hsuf := suffix_is (l := t) 10 (by omega)
 rw [dT hlast] at hsuf
 have hpos : 0 < t.length := by
  cases t with
  | nil => cases hlast
  | cons a l => simp
 have hdlen : t.dropLast.length = t.length - 1 := List.length_dropLast
 have hw1 : IntKind.i64.wrap ((t.length : Int) - 1) = ((t.length - 1 : Nat) : Int) := by rw [wrap_i64 (by omega) (by omega)]; omega
 have hdl : t.take (t.length - 1) = t.dropLast := List.dropLast_eq_take.symm
 have hsp := split_is (l := t.dropLast) (c := 10) (by omega)
 have hall := split_all 10 t.dropLast
 rw [← last_drop hlast] at hall
 have hlsn := splitL_len t.dropLast 10
 have hmem : ∀ w ∈ splitL t.dropLast 10, w.length ≤ 1048576 := fun w hw => by have := split_mem_le t.dropLast 10 w hw; omega
 obtain ⟨ls, hls⟩ : ∃ ls, splitL t.dropLast 10 = ls := ⟨_, rfl⟩
 rw [hls] at hsp hall hlsn hmem ⊢
 have hTls : linesT ls = t := hall
 have hlsn : ls.length ≤ 1048576 := by omega
 clear hall hls
 refine fnIs_of tab_ok Tryz.func15 rfl rfl rfl ?_;refine sR ?_;refine rN ?_;iterate 2 refine rC ?_
 refine nQ ?_;refine sR ?_;refine rC ?_;refine rQ (len_s tab_ok rfl rfl) ?_;refine rC ?_;refine nS ?_;refine wF ?_;refine kS ?_;refine qR ?_;refine rC ?_;refine rQ (call_r hsuf rfl rfl (arg_e (arg_e arg_nil)) (.inl rfl) (fun _ => rfl)) ?_
 refine rC ?_;refine nS ?_;refine wG ?_;refine kS ?_;refine sR ?_;iterate 2 refine rC ?_
 refine rQ (len_s tab_ok rfl rfl) ?_;refine rQ (sub_int (m := ((t.length - 1 : Nat) : Int)) tab_ok rfl rfl hw1) ?_;refine rQ (str_to (l := t) (hi := t.length - 1) (m := t.dropLast) tab_ok rfl rfl rfl (by omega) hdl) ?_
 refine rQ (call_r hsp rfl rfl (arg_e (arg_e arg_nil)) (.inl rfl) (fun _ => rfl)) ?_;refine rC ?_;refine nQ ?_;refine sR ?_;refine rC ?_;refine nS ?_;refine wc_block ?_
 refine wc_inv (fun x : Nat × SCfg => ⟨[(31, .int .i64 x.1), (5, .d (.arr 1 strD ls)), (2, .ptr 64 [])], [(64, some (rowC x.2 R0))], 72, Tryz.f15.ntmps, 64⟩) (fun x => x.1 ≤ 5 ∧ x.1 ≤ ls.length ∧ headsS 5 0 ls zCfg = headsS (5 - x.1) x.1 (ls.drop x.1) x.2) (fun x => 5 - x.1) (0, zCfg) [(64, some _)] ⟨Nat.zero_le _, Nat.zero_le _, rfl⟩
  (.of rfl rfl rfl rfl rfl ⟨⟨_, rfl, .refl _⟩, rfl, ⟨_, rfl, .refl _⟩, rfl, ⟨_, rfl, .refl _⟩, rfl, trivial⟩ ⟨⟨rfl, rfl, _, rfl, RowLe.of_eq rfl⟩, trivial⟩) ?_
 rintro ⟨i, c⟩ ⟨hi5, hil, hinv⟩
 simp only at hi5 hil hinv
 refine wc_of ?_
 by_cases hi : i < 5
 ·have d1 : decide ((i : Int) < 5) = true := dT (by omega)
  obtain ⟨f, hf⟩ : ∃ f, 5 - i = f + 1 := ⟨4 - i, by omega⟩
  by_cases hlt : i < ls.length
  ·have d2 : decide ((ls.length : Int) ≤ (i : Int)) = false := dF (by omega)
   obtain ⟨x, hx⟩ : ∃ x, ls[i]? = some x := ⟨_, List.getElem?_eq_getElem hlt⟩
   have hx2 : ls[((i : Int)).toNat]? = some x := by rw [Int.toNat_natCast]; exact hx
   have hdr : ls.drop i = x :: ls.drop (i + 1) := by
    rw [List.drop_eq_getElem_cons hlt]
    rw [List.getElem?_eq_getElem hlt] at hx
    rw [Option.some.inj hx]
   obtain ⟨res, c', hh, hq⟩ := head_is i hi x c R0 (hmem x (List.mem_of_getElem? hx))
   rw [hf, hdr, headsS, hq] at hinv
   unfold HeadIs at hh
   cases res with
   | true =>
    refine sR ?_;refine rC ?_;refine nQ ?_;refine wT ?_;refine kS ?_;refine wc_seq ?_;refine wc_block ?_;refine sR ?_;iterate 2 refine rC ?_
    refine nR ?_;iterate 2 refine rC ?_
    refine rQ iE ?_;iterate 2 refine rC ?_
    refine rO ?_;refine rC ?_;refine rO ?_;refine rC ?_;refine rO ?_;refine rC ?_;refine rO ?_;refine rQ (index_arr tab_ok rfl rfl rfl rfl rfl (by omega) hx2) ?_;refine rO ?_
    refine rQ iL ?_;refine rO ?_;refine rC ?_;refine rO ?_;refine reg_new2 (call_h [(0, some 64)] hh rfl rfl rfl (arg_e (arg_e (arg_ptr rfl rfl arg_nil))) ⟨⟨rfl, rfl, _, _, rfl, rfl, .refl _⟩, trivial⟩ rfl rfl (.inl rfl) rfl rfl) rfl ?_
    refine rO ?_;refine rC ?_;refine rQ iF ?_;refine nS ?_;refine wG ?_;refine wc_skip ?_;refine blk_n ?_;refine seq_n ?_;refine wc_region ?_;refine rQ iD ?_;refine rC ?_
    refine reg_nil ?_
    exact loop_n (i + 1, c') [] ⟨hi, hlt, by rw [hinv, if_pos rfl]; show headsS f (i + 1) _ _ = headsS (5 - (i + 1)) (i + 1) _ _; rw [show 5 - (i + 1) = f by omega]⟩ (by show 5 - (i + 1) < 5 - i; omega) (.of rfl rfl rfl rfl rfl ⟨⟨_, rfl, .refl _⟩, rfl, ⟨_, rfl, .refl _⟩, rfl, ⟨_, rfl, .refl _⟩, rfl, trivial⟩ ⟨⟨rfl, rfl, _, rfl, .refl _⟩, trivial⟩)
   | false =>
    rw [show parseLs ls = (zScr, i + 1, 5) by unfold parseLs; rw [hinv, if_neg (by decide)]]
    refine sR ?_;refine rC ?_;refine nQ ?_;refine wT ?_;refine kS ?_;refine wc_seq ?_;refine wc_block ?_;refine sR ?_;iterate 2 refine rC ?_
    refine nR ?_;iterate 2 refine rC ?_
    refine rQ iE ?_;iterate 2 refine rC ?_
    refine rO ?_;refine rC ?_;refine rO ?_;refine rC ?_;refine rO ?_;refine rC ?_;refine rO ?_;refine rQ (index_arr tab_ok rfl rfl rfl rfl rfl (by omega) hx2) ?_;refine rO ?_
    refine rQ iL ?_;refine rO ?_;refine rC ?_;refine rO ?_;refine reg_new2 (call_h [(0, some 64)] hh rfl rfl rfl (arg_e (arg_e (arg_ptr rfl rfl arg_nil))) ⟨⟨rfl, rfl, _, _, rfl, rfl, .refl _⟩, trivial⟩ rfl rfl (.inl rfl) rfl rfl) rfl ?_
    refine rO ?_;refine rC ?_;refine rQ iF ?_;refine nS ?_;refine wV ?_;refine sR ?_;refine rQ iS ?_;refine rC ?_;refine rQ iD ?_;refine rW ?_;iterate 2 refine rC ?_
    refine nS ?_;refine wc_ret ?_;refine blk_r ?_;refine seq_r ?_;refine loop_r ?_;refine blk_r ?_;refine seq_r ?_
    exact ⟨trivial, _, rfl, [], .of rfl rfl rfl rfl rfl ⟨⟨_, rfl, AVLe.tup1 (AVLe.d z30_le rfl) rfl⟩, rfl, trivial⟩ trivial⟩
  ·have d2 : decide ((ls.length : Int) ≤ (i : Int)) = true := dT (by omega)
   rw [hf, List.drop_eq_nil_of_le (by omega), headsS] at hinv
   rw [show parseLs ls = (zScr, i + 1, 5) by unfold parseLs; rw [hinv]]
   refine sR ?_;refine rC ?_;refine nQ ?_;refine wT ?_;refine kS ?_;refine wc_seq ?_;refine wc_block ?_;refine sR ?_;iterate 2 refine rC ?_
   refine nR ?_;iterate 2 refine rC ?_
   refine rQ iE ?_;iterate 2 refine rC ?_
   iterate 8 refine rS ?_
   refine rQ iT ?_;refine nS ?_;refine wV ?_;refine sR ?_;refine rQ iS ?_;refine rC ?_;refine rQ iD ?_;refine rW ?_;iterate 2 refine rC ?_
   refine nS ?_;refine wc_ret ?_;refine blk_r ?_;refine seq_r ?_;refine loop_r ?_;refine blk_r ?_;refine seq_r ?_
   exact ⟨trivial, _, rfl, [], .of rfl rfl rfl rfl rfl ⟨⟨_, rfl, AVLe.tup1 (AVLe.d z30_le rfl) rfl⟩, rfl, trivial⟩ trivial⟩
 have hi5 : i = 5 := by omega
 subst hi5
 have d1 : decide (((5 : Nat) : Int) < 5) = false := rfl
 have h5 := hil
 have hinv : headsS 5 0 ls zCfg = .inl c := hinv
 have hix := index_is (ls.drop 5) sActions (by rw [List.length_drop]; omega)
 cases hk : (ls.drop 5).findIdx? (fun x => x == sActions) with
 | none =>
  simp only [idxF, hk] at hix
  rw [show parseLs ls = (zScr, ls.length + 1, 5) by unfold parseLs; rw [hinv]; simp only [hk]]
  have d2 : decide ((-1 : Int) < 0) = true := rfl
  refine sR ?_;refine rC ?_;refine nQ ?_;refine wG ?_;refine wc_exit ?_;refine seq_x ?_;refine loop_x ?_;refine blk_x ?_;refine seq_n ?_;refine sR ?_;refine rC ?_
  refine rQ (slice_from (m := 5) tab_ok rfl rfl rfl rfl rfl h5) ?_;refine rQ (call_r hix rfl rfl (arg_e (arg_e arg_nil)) (.inl rfl) (fun _ => rfl)) ?_;refine rC ?_
  refine nQ ?_;refine sR ?_;iterate 2 refine rC ?_
  refine nS ?_;refine wV ?_;refine sR ?_;refine rQ iS ?_;refine rC ?_;refine rQ iE ?_;refine rQ iD ?_;refine rW ?_;iterate 2 refine rC ?_
  refine nS ?_;refine wc_ret ?_;refine seq_r ?_
  exact ⟨trivial, _, rfl, [], .of rfl rfl rfl rfl rfl ⟨⟨_, rfl, AVLe.tup1 (AVLe.d z30_le rfl) rfl⟩, rfl, trivial⟩ trivial⟩
 | some k =>
 simp only [idxF, hk] at hix
 have hkl : k < ls.length - 5 := by
  have := (List.findIdx?_eq_some_iff_getElem.1 hk).1
  rwa [List.length_drop] at this
 have h5k : 5 + k ≤ ls.length := by omega
 have d2 : decide ((k : Int) < 0) = false := dF (by omega)
 refine sR ?_;refine rC ?_;refine nQ ?_;refine wG ?_;refine wc_exit ?_;refine seq_x ?_;refine loop_x ?_;refine blk_x ?_;refine seq_n ?_;refine sR ?_;refine rC ?_
 refine rQ (slice_from (m := 5) tab_ok rfl rfl rfl rfl rfl h5) ?_;refine rQ (call_r hix rfl rfl (arg_e (arg_e arg_nil)) (.inl rfl) (fun _ => rfl)) ?_;refine rC ?_
 refine nQ ?_;refine sR ?_;iterate 2 refine rC ?_
 refine nS ?_;refine wG ?_;refine kS ?_;refine sR ?_;refine rC ?_;refine nQ ?_;refine sR ?_;iterate 2 refine rC ?_
 refine rQ iD ?_;refine rQ (slice_mid (m := 5) (q := 5 + k) tab_ok rfl rfl rfl rfl rfl rfl (by omega) h5k) ?_;refine rQ iE ?_;refine rC ?_;refine nS ?_;refine wc_block ?_
 obtain ⟨mid, hmid⟩ : ∃ m, (ls.drop 5).take (5 + k - 5) = m := ⟨_, rfl⟩
 rw [hmid]
 have hmid2 : mid = (ls.drop 5).take k := by rw [← hmid, show 5 + k - 5 = k by omega]
 have hmlen : (linesT mid).length ≤ t.length := by
  rw [hmid2, ← hTls]
  exact Nat.le_trans (linesT_take _ _) (linesT_drop _ _)
 have hml : mid.length ≤ 1048576 := by rw [hmid2, List.length_take, List.length_drop]; omega
 have hmem2 : ∀ w ∈ mid, w.length ≤ 1048576 := fun w hw => hmem w (by rw [hmid2] at hw; exact List.mem_of_mem_drop (List.mem_of_mem_take hw))
 refine wc_inv (fun j : Nat => ⟨[(66, .int .i64 j), (65, .int .i64 mid.length), (64, .d (.arr 1 strD mid)), (8, .d (strD (linesT (mid.take j)))), (7, .int .i64 k), (5, .d (.arr 1 strD ls)), (2, .ptr 64 [])], [(64, some (rowC c R0))], 72, Tryz.f15.ntmps, 64⟩) (fun j => j ≤ mid.length) (fun j => mid.length - j) 0 [] (Nat.zero_le _)
  (.of rfl rfl rfl rfl rfl ⟨⟨_, rfl, .refl _⟩, rfl, ⟨_, rfl, .refl _⟩, rfl, ⟨_, rfl, .refl _⟩, rfl, ⟨_, rfl, .refl _⟩, rfl, ⟨_, rfl, .refl _⟩, rfl, ⟨_, rfl, .refl _⟩, rfl, ⟨_, rfl, .refl _⟩, rfl, trivial⟩ ⟨⟨rfl, rfl, _, rfl, .refl _⟩, trivial⟩) ?_
 intro j hj
 refine wc_of ?_
 by_cases hjl : j < mid.length
 ·have d3 : decide ((j : Int) < (mid.length : Int)) = true := dT (by omega)
  obtain ⟨x, hx⟩ : ∃ x, mid[j]? = some x := ⟨_, List.getElem?_eq_getElem hjl⟩
  have hx2 : mid[((j : Int)).toNat]? = some x := by rw [Int.toNat_natCast]; exact hx
  have hxl := hmem2 x (List.mem_of_getElem? hx)
  have htk := linesT_take mid j
  have hl72 : x.length + [(10 : UInt8)].length ≤ 9223372036854775807 := by simp; omega
  have hl73 : (linesT (mid.take j)).length + (x ++ [10]).length ≤ 9223372036854775807 := by simp; omega
  have hm73 : linesT (mid.take j) ++ (x ++ [10]) = linesT (mid.take (j + 1)) := by rw [List.take_add_one, hx, Option.toList_some, linesT_app]; simp [linesT]
  refine sR ?_;refine rC ?_;refine nQ ?_;refine wT ?_;refine kS ?_;refine wc_seq ?_;refine wc_block ?_;refine sR ?_;refine rQ (index_arr tab_ok rfl rfl rfl rfl rfl (by omega) hx2) ?_
  refine rQ iL ?_;refine rC ?_;refine nS ?_;refine wc_region ?_;iterate 2 refine rC ?_
  refine rQ (add_str (a := x) (b := [10]) rfl rfl hl72 rfl) ?_;refine rQ (add_str (a := linesT (mid.take j)) (b := x ++ [10]) rfl rfl hl73 hm73) ?_;refine rC ?_;refine reg_nil ?_
  refine blk_n ?_;refine seq_n ?_;refine wc_region ?_;refine rQ iD ?_;refine rC ?_;refine reg_nil ?_
  exact loop_n (j + 1) [] hjl (by omega) (.of rfl rfl rfl rfl rfl ⟨⟨_, rfl, .refl _⟩, rfl, ⟨_, rfl, .refl _⟩, rfl, ⟨_, rfl, .refl _⟩, rfl, ⟨_, rfl, .refl _⟩, rfl, ⟨_, rfl, .refl _⟩, rfl, ⟨_, rfl, .refl _⟩, rfl, ⟨_, rfl, .refl _⟩, rfl, trivial⟩ ⟨⟨rfl, rfl, _, rfl, .refl _⟩, trivial⟩)
 have hje : j = mid.length := by omega
 subst hje
 have d3 : decide ((mid.length : Int) < (mid.length : Int)) = false := dF (by omega)
 rw [List.take_length]
 have hpp := parse_is (linesT mid) (by omega)
 obtain ⟨⟨l, n, e⟩, hpe⟩ : ∃ x, parseP (linesT mid) [] 1 = x := ⟨_, rfl⟩
 rw [hpe] at hpp
 simp only at hpp
 have hfd : (ls.drop 5).findIdx? (· == sActions) = some k := hk
 have hpl : parseLs ls = if e ≠ 0 then (zScr, n + 5, e) else match actsS (ls.drop (6 + k)) (6 + k) with
    | .inr i => (zScr, i + 1, 5)
    | .inl bs => if schk c l bs ≠ 0 then (zScr, 0, schk c l bs) else ((c, l, bs), 0, 0) := by
  unfold parseLs
  rw [hinv]
  simp only [hfd]
  rw [← hmid2, hpe]
  rfl
 by_cases he : e = 0
 ·subst he
  have d4 : (!decide ((0 : Int) = 0)) = false := rfl
  rw [hpl, if_neg (fun h => h rfl)]
  obtain ⟨p1, p2, p3, p4⟩ := parse_out _ _ [] _ 1 _ (Nat.le_refl _) (by decide) (by intro p hp; cases hp) hpe
  refine sR ?_;refine rC ?_;refine nQ ?_;refine wF ?_;refine wc_exit ?_;refine seq_x ?_;refine loop_x ?_;refine blk_x ?_;refine seq_n ?_;refine sR ?_;refine rC ?_
  refine rQ (call_r hpp rfl rfl (arg_e arg_nil) (.inl rfl) (fun _ => rfl)) ?_;iterate 7 refine rC ?_
  refine nQ ?_;refine sR ?_;iterate 2 refine rC ?_
  refine nS ?_;refine wG ?_;refine kS ?_;refine sR ?_;iterate 2 refine rC ?_
  refine rX ?_;refine nQ ?_;refine sR ?_;refine rC ?_;refine rQ iD ?_;refine rC ?_;refine nS ?_;refine wc_block ?_
  refine wc_inv (fun x : Nat × List SAct => ⟨[(13, .int .i64 x.1), (5, .d (.arr 1 strD ls)), (2, .ptr 64 [])], [(64, some (rowA c l x.2 65)), (65, some (.ds 39 5 false encAct x.2))], 72, Tryz.f15.ntmps, 64⟩) (fun x => x.1 ≤ ls.length ∧ x.2.length ≤ x.1 ∧ actsS (ls.drop (6 + k)) (6 + k) = preA x.2 (actsS (ls.drop x.1) x.1)) (fun x => ls.length - x.1) (6 + k, []) [(65, none)] ⟨by show 6 + k ≤ ls.length; omega, Nat.zero_le _, (preA_nil _).symm⟩
   (.of rfl rfl rfl rfl rfl ⟨⟨_, rfl, .refl _⟩, rfl, ⟨_, rfl, .refl _⟩, rfl, ⟨_, rfl, .refl _⟩, rfl, trivial⟩ ⟨⟨rfl, rfl, _, rfl, split3⟩, ⟨rfl, rfl, rfl⟩, trivial⟩) ?_
  rintro ⟨i, bs⟩ ⟨hi, hbi, hac0⟩
  simp only at hi hbi hac0
  refine wc_of ?_
  by_cases hlt : i < ls.length
  ·have d5 : decide ((i : Int) < (ls.length : Int)) = true := dT (by omega)
   obtain ⟨x, hx⟩ : ∃ x, ls[i]? = some x := ⟨_, List.getElem?_eq_getElem hlt⟩
   have hx2 : ls[((i : Int)).toNat]? = some x := by rw [Int.toNat_natCast]; exact hx
   have hdr : ls.drop i = x :: ls.drop (i + 1) := by
    rw [List.drop_eq_getElem_cons hlt]
    rw [List.getElem?_eq_getElem hlt] at hx
    rw [Option.some.inj hx]
   have hlen : bs.length + 1 ≤ 1048576 := by omega
   obtain ⟨a, res, hac, hq⟩ := act_is x (hmem x (List.mem_of_getElem? hx))
   unfold ActIs at hac
   rw [hdr, actsS, hq] at hac0
   cases res with
   | true =>
    rw [if_pos rfl] at hac0
    have hac1 : actsS (ls.drop (6 + k)) (6 + k) = preA (bs ++ [a]) (actsS (ls.drop (i + 1)) (i + 1)) := hac0.trans (preA_cons bs a _)
    refine qR ?_;iterate 2 refine rC ?_
    refine rQ iE ?_;refine rC ?_;refine nS ?_;refine wT ?_;refine kS ?_;refine wc_seq ?_;refine wc_block ?_;refine sR ?_;iterate 2 refine rC ?_
    refine rQ (index_arr tab_ok rfl rfl rfl rfl rfl (by omega) hx2) ?_;refine rQ iL ?_;refine rQ (call_r hac rfl rfl (arg_e arg_nil) (.inl rfl) (fun _ => rfl)) ?_;iterate 3 refine rC ?_
    refine rN ?_;refine rW ?_;refine rC ?_;refine nQ ?_;refine sR ?_;iterate 2 refine rC ?_
    refine nS ?_;refine wG ?_;refine kS ?_;refine wc_region ?_;refine rC ?_;iterate 2 refine rQ iM ?_
    refine reg_new (build_slice (s := 5) tab_ok rfl rfl rfl rfl rfl rfl rfl rfl) rfl ?_;refine reg_new2 (append_one (xs := bs) (s := 5) (enc := encAct) tab_ok a rfl rfl rfl rfl rfl rfl rfl rfl rfl hlen rfl) rfl ?_
    refine rC ?_;refine reg_store (store_row tab_ok rfl rfl rfl ⟨_, ⟨_, ⟨rfl, rfl, rfl⟩, rfl⟩, rfl⟩ rfl) ?_;refine reg_nil ?_;refine blk_n ?_;refine seq_n ?_;refine wc_region ?_
    refine rC ?_;refine rQ iD ?_;refine rC ?_;refine reg_nil ?_
    exact loop_n (i + 1, bs ++ [a]) [(65, some 240)] ⟨hlt, by simp; omega, hac1⟩ (by show ls.length - (i + 1) < ls.length - i; omega) (.of rfl rfl rfl rfl rfl ⟨⟨_, rfl, .refl _⟩, rfl, ⟨_, rfl, .refl _⟩, rfl, ⟨_, rfl, .refl _⟩, rfl, trivial⟩ ⟨⟨rfl, rfl, _, rfl, RowLe.of_eq (by rw [rowA, List.length_append]; rfl)⟩, ⟨rfl, rfl, _, rfl, .refl _⟩, trivial⟩)
   | false =>
    rw [if_neg (by decide)] at hac0
    rw [hac0]
    refine qR ?_;iterate 2 refine rC ?_
    refine rQ iE ?_;refine rC ?_;refine nS ?_;refine wT ?_;refine kS ?_;refine wc_seq ?_;refine wc_block ?_;refine sR ?_;iterate 2 refine rC ?_
    refine rQ (index_arr tab_ok rfl rfl rfl rfl rfl (by omega) hx2) ?_;refine rQ iL ?_;refine rQ (call_r hac rfl rfl (arg_e arg_nil) (.inl rfl) (fun _ => rfl)) ?_;iterate 3 refine rC ?_
    refine rN ?_;refine rW ?_;refine rC ?_;refine nQ ?_;refine sR ?_;iterate 2 refine rC ?_
    refine nS ?_;refine wV ?_;refine sR ?_;refine rQ iS ?_;refine rC ?_;refine rQ iD ?_;refine rW ?_;iterate 2 refine rC ?_
    refine nS ?_;refine wc_ret ?_;refine seq_r ?_;refine blk_r ?_;refine seq_r ?_;refine loop_r ?_;refine blk_r ?_;refine seq_r ?_
    exact ⟨trivial, _, rfl, [], .of rfl rfl rfl rfl rfl ⟨⟨_, rfl, AVLe.tup1 (AVLe.d z30_le rfl) rfl⟩, rfl, trivial⟩ trivial⟩
  ·have d5 : decide ((i : Int) < (ls.length : Int)) = false := dF (by omega)
   rw [show ls.drop i = [] from List.drop_eq_nil_of_le (by omega), actsS] at hac0
   rw [hac0]
   simp only [preA, List.append_nil]
   refine wc_freeze (env' := [(13, _), (5, _), (2, _)]) (h' := [(64, some _)]) 65 _ rfl ⟨⟨_, rfl, .refl _⟩, ⟨_, rfl, .refl _⟩, ⟨_, rfl, .refl _⟩, trivial⟩ ⟨⟨rfl, _, rfl, FrzR.box (Frz.dcons (.refl _) (Frz.dcons (.refl _) (Frz.dcons (Frz.own rfl) (.refl _))))⟩, trivial⟩ ?_
   obtain ⟨_, _, hcw⟩ := heads_inv hinv
   have hck := scheck_is c l bs hcw.ok (bd_chk p3) (by omega)
   have hle : DLe (.cons (encCfg c) (.cons (.arx 1 encXP l) (.cons (encAs bs) .nil))) (encScr c l bs) := DLe.cons (.refl _) (DLe.cons (xl_le l) (.refl _))
   have hcl := clipA_is bs
   obtain ⟨e5, he5⟩ : ∃ x, schk c l bs = x := ⟨_, rfl⟩
   rw [he5] at hck ⊢
   by_cases h5z : e5 = 0
   ·subst h5z
    have d6 : (!decide ((0 : Int) = 0)) = false := rfl
    rw [if_neg (fun h => h rfl)]
    refine qR ?_;iterate 2 refine rC ?_
    refine rQ iE ?_;refine rC ?_;refine nS ?_;refine wF ?_;refine wc_exit ?_;refine seq_x ?_;refine loop_x ?_;refine blk_x ?_;refine seq_n ?_;refine qR ?_;refine rQ iM ?_
    refine rQ (call_r hck rfl rfl (arg_d rfl trivial hle arg_nil) (.inl rfl) (fun _ => rfl)) ?_;refine rC ?_;refine nR ?_;iterate 2 refine rC ?_
    refine nS ?_;refine wG ?_;refine kS ?_;refine sR ?_;refine rC ?_;refine rQ iB ?_;refine rQ (call_r hcl rfl rfl (arg_e arg_nil) (.inl rfl) (fun _ => rfl)) ?_;refine rC ?_
    refine rX ?_;refine nR ?_;refine rQ iM ?_;refine rW ?_;iterate 2 refine rC ?_
    refine nS ?_;refine wc_ret ?_
    exact ⟨trivial, _, rfl, [], lf⟩
   ·have d6 : (!decide (e5 = 0)) = true := by rw [dF h5z]; rfl
    rw [if_pos h5z]
    refine qR ?_;iterate 2 refine rC ?_
    refine rQ iE ?_;refine rC ?_;refine nS ?_;refine wF ?_;refine wc_exit ?_;refine seq_x ?_;refine loop_x ?_;refine blk_x ?_;refine seq_n ?_;refine qR ?_;refine rQ iM ?_
    refine rQ (call_r hck rfl rfl (arg_d rfl trivial hle arg_nil) (.inl rfl) (fun _ => rfl)) ?_;refine rC ?_;refine nR ?_;iterate 2 refine rC ?_
    refine nS ?_;refine wT ?_;refine sR ?_;refine rQ iS ?_;refine rC ?_;refine rW ?_;iterate 2 refine rC ?_
    refine nS ?_;refine wc_ret ?_;refine seq_r ?_
    exact ⟨trivial, _, rfl, [], .of rfl rfl rfl rfl rfl ⟨⟨_, rfl, AVLe.tup1 (AVLe.d z30_le rfl) rfl⟩, rfl, trivial⟩ trivial⟩
 ·have d4 : (!decide (e = 0)) = true := by rw [dF he]; rfl
  rw [hpl, if_pos he]
  have hnn := parse_num _ _ _ _ _ _ _ (Nat.le_refl _) hpe
  refine sR ?_;refine rC ?_;refine nQ ?_;refine wF ?_;refine wc_exit ?_;refine seq_x ?_;refine loop_x ?_;refine blk_x ?_;refine seq_n ?_;refine sR ?_;refine rC ?_
  refine rQ (call_r hpp rfl rfl (arg_e arg_nil) (.inl rfl) (fun _ => rfl)) ?_;iterate 7 refine rC ?_
  refine nQ ?_;refine sR ?_;iterate 2 refine rC ?_
  refine nS ?_;refine wT ?_;refine sR ?_;refine rQ iS ?_;refine rC ?_;refine rQ iD ?_;refine rC ?_;refine rW ?_;iterate 2 refine rC ?_
  refine nS ?_;refine wc_ret ?_;refine seq_r ?_
  exact ⟨trivial, _, rfl, [], .of rfl rfl rfl rfl rfl ⟨⟨_, rfl, AVLe.tup1 (AVLe.d z30_le rfl) rfl⟩, rfl, trivial⟩ trivial⟩
def parseX (t : List UInt8) : SScr × Nat × Int := if 1048576 < t.length then (zScr, 0, 3) else parseS t
theorem sparse_is (t : List UInt8) : FnIs Tryz.prog 15 [.d (strD t)] [] (parSA (parseX t).1 (parseX t).2.1 (parseX t).2.2) [] := by
 by_cases h : 1048576 < t.length
 ·rw [show parseX t = (zScr, 0, 3) from if_pos h]
  exact sparse_long t h
 rw [show parseX t = parseS t from if_neg h]
 by_cases hl : t.getLast? = some 10
 ·rw [parseS, if_pos hl]
  exact sparse_main t (by omega) hl
 ·rw [parseS, if_neg hl]
  exact sparse_nosuf t (by omega) hl
end Go.Proofs.YthiijfbcfoifnaaGreatDoor
namespace Go.Proofs.YthiijfbcfoifnaaGreatDoor
open Go.Eng Go.Plain
def encV : Bool × POp → D
 | (true, o) => .cons (u8s o.kind) (.cons (i6 o.index) (.cons (.sc nil_) .nil))
 | (false, o) => encPOp o
def VOk (x : Bool × POp) : Prop := x.1 = true → x.2.data = []
theorem dle_arr {α β : Type} {s : Nat} {enc : α → D} {enc' : β → D} {g : α → β} {xs : List α} {ys : List β} (hy : ys = xs.map g) (h : ∀ x ∈ xs, DLe (enc x) (enc' (g x))) : DLe (.arr s enc xs) (.arr s enc' ys) := by
 subst hy
 rintro w X cs (⟨rfl, rfl⟩ | ⟨a, c, rfl, h1, h2, f, hf⟩)
 ·exact .inl ⟨rfl, rfl⟩
 ·refine .inr ⟨a, c, by rw [List.length_map], by rw [List.length_map]; exact h1, h2, f, fun i hi => ?_⟩
  rw [List.length_map] at hi
  obtain ⟨g1, g2, g3⟩ := hf i hi
  refine ⟨?_, g2, g3⟩
  rw [List.getElem_map]
  exact h _ (List.getElem_mem _) _ _ _ g1
abbrev encPV (l : List (Bool × POp)) : D := .arr 3 encV l
end Go.Proofs.YthiijfbcfoifnaaGreatDoor
namespace Go.Eng
open Go.RowKit
section
variable {P : Program} {T : Tab} {env : Env} {h : Upds} {n : Nat}
end
end Go.Eng
namespace Go.Proofs.YthiijfbcfoifnaaGreatDoor
open Go.Eng Go.Plain
set_option maxHeartbeats 4000000
set_option maxRecDepth 20000
attribute [local irreducible] WC RegS RegD SeqQ BlkQ ScoQ RegK CutK Sat SatN FnIs LoopQ StepIs OpIs
theorem hexD_cut {d : Nat} (h : d < 16) : (hexD.drop d).take (d + 1 - d) = [hexC d] := by
 have : ∀ d, d < 16 → (hexD.drop d).take (d + 1 - d) = [hexC d] := by decide
 exact this d h
theorem rhex34_is (l : List UInt8) (hL : l.length ≤ 1000000000) : FnIs Tryz.prog 28 [.d (encB l)] [] (.d (strD (hexP l))) [] := by
 have hbl : (byI l).length = l.length := byI_len l
 refine fnIs_of tab_ok Tryz.func28 rfl rfl rfl ?_
 by_cases hn : l = []
 ·have hd : decide (((byI l).length : Int) = 0) = true := by rw [hn]; rfl
  rw [show hexP l = [45] from if_pos hn]
  refine sR ?_;refine rC ?_;refine nQ ?_;refine sR ?_;refine rC ?_;refine rQ iE ?_;refine rC ?_;refine nS ?_;refine wT ?_;refine sR ?_;refine rC ?_;refine nS ?_;refine wc_ret ?_
  refine seq_r ?_
  exact ⟨trivial, [], lf⟩
 have hpos : 0 < l.length := List.length_pos_iff.2 hn
 have hd : decide (((byI l).length : Int) = 0) = false := dF (by omega)
 refine sR ?_;refine rC ?_;refine nQ ?_;refine sR ?_;refine rC ?_;refine rQ iE ?_;refine rC ?_;refine nS ?_;refine wF ?_;refine kS ?_;refine sR ?_;refine rC ?_;refine nQ ?_
 refine sR ?_;refine rC ?_;refine nS ?_;refine wc_block ?_
 refine wc_inv (fun i : Nat => ⟨[(4, .int .i64 i), (3, .d (strD ((l.take i).flatMap hexB))), (0, .d (encB l))], [], 72, Tryz.f28.ntmps, 64⟩) (fun i => i ≤ l.length) (fun i => l.length - i) 0 [] (Nat.zero_le _)
  (.of rfl rfl rfl rfl rfl ⟨⟨_, rfl, .refl _⟩, rfl, ⟨_, rfl, .refl _⟩, rfl, ⟨_, rfl, .refl _⟩, rfl, trivial⟩ trivial) ?_
 intro i hi
 refine wc_of ?_
 by_cases hlt : i < l.length
 ·have d1 : decide ((i : Int) < ((byI l).length : Int)) = true := dT (by omega)
  obtain ⟨b, hb⟩ : ∃ b, l[i]? = some b := ⟨_, List.getElem?_eq_getElem hlt⟩
  have hb' : (byI l)[((i : Int)).toNat]? = some (b.toNat : Int) := by rw [Int.toNat_natCast]; exact byI_get hb
  have hb8 : b.toNat < 256 := b.toNat_lt
  have hw16 : IntKind.u8.wrap ((b.toNat / 16 : Nat) : Int) = ((b.toNat / 16 : Nat) : Int) := wrap_u8n (by omega)
  have hw1 : IntKind.u8.wrap (((b.toNat / 16 : Nat) : Int) + 1) = ((b.toNat / 16 + 1 : Nat) : Int) := wrap_u8n (a := b.toNat / 16 + 1) (by omega)
  have hw2 : IntKind.u8.wrap (((b.toNat % 16 : Nat) : Int) + 1) = ((b.toNat % 16 + 1 : Nat) : Int) := wrap_u8n (a := b.toNat % 16 + 1) (by omega)
  have hle1 : b.toNat / 16 + 1 ≤ hexD.length := by show _ ≤ 16; omega
  have hle2 : b.toNat % 16 + 1 ≤ hexD.length := by show _ ≤ 16; omega
  have hcut1 := hexD_cut (d := b.toNat / 16) (by omega)
  have hcut2 := hexD_cut (d := b.toNat % 16) (by omega)
  have hpl : ((l.take i).flatMap hexB).length = 2 * i := by rw [hexB_len, List.length_take, Nat.min_eq_left hi]
  have hlen1 : ((l.take i).flatMap hexB).length + [hexC (b.toNat / 16)].length ≤ 9223372036854775807 := by rw [hpl]; simp; omega
  have hlen2 : ((l.take i).flatMap hexB ++ [hexC (b.toNat / 16)]).length + [hexC (b.toNat % 16)].length ≤ 9223372036854775807 := by rw [List.length_append, hpl]; simp; omega
  have hgo := hex_take hb
  refine qR ?_;iterate 2 refine rC ?_
  refine rQ iE ?_;refine rC ?_;refine nS ?_;refine wT ?_;refine kS ?_;refine wc_seq ?_;refine wc_block ?_;refine wc_seq ?_;refine wc_draw (by kernel_rfl) ?_;refine dC [0] [] ?_
  refine dC [4] [] ?_;refine dQ [16, 17] [] iA ?_;refine dQ [18] [] iL ?_;refine dQ [19] [] (quo_nat (a := b.toNat) (b := 16) tab_ok rfl rfl rfl (by decide) hw16) ?_
  refine dC [0] [] ?_;refine dC [4] [] ?_;refine dQ [21, 22] [] iA ?_;refine dQ [23] [] iL ?_;refine dQ [24] [] (rem_nat (a := b.toNat) (b := 16) tab_ok rfl rfl rfl (by decide)) ?_
  refine dC [20] [] ?_;refine dC [25] [] ?_;refine dreg_end (by kernel_rfl) ?_;refine seq_n ?_;refine wc_draw (by kernel_rfl) ?_;refine dC [3] [] ?_;iterate 2 refine dC [5] [] ?_
  refine dQ [28] [] (add_int (m := ((b.toNat / 16 + 1 : Nat) : Int)) tab_ok rfl rfl hw1) ?_;refine dQ [27, 29] [] (str_mid (l := hexD) (lo := b.toNat / 16) (hi := b.toNat / 16 + 1) tab_ok rfl rfl rfl rfl hle1 (by omega) hcut1) ?_
  refine dQ [26, 30] [] (add_str (a := (l.take i).flatMap hexB) (b := [hexC (b.toNat / 16)]) rfl rfl hlen1 rfl) ?_;iterate 2 refine dC [6] [] ?_
  refine dQ [33] [] (add_int (m := ((b.toNat % 16 + 1 : Nat) : Int)) tab_ok rfl rfl hw2) ?_;refine dQ [32, 34] [] (str_mid (l := hexD) (lo := b.toNat % 16) (hi := b.toNat % 16 + 1) tab_ok rfl rfl rfl rfl hle2 (by omega) hcut2) ?_
  refine dQ [31, 35] [] (add_str (a := (l.take i).flatMap hexB ++ [hexC (b.toNat / 16)]) (b := [hexC (b.toNat % 16)]) rfl rfl hlen2 rfl) ?_;refine dC [36] [] ?_;refine dreg_end (by kernel_rfl) ?_
  refine blk_n ?_;refine seq_n ?_;refine wc_region ?_;refine rC ?_;refine rQ iD ?_;refine rC ?_;refine reg_nil ?_
  exact loop_n (i + 1) [] hlt (by omega) (.of rfl rfl rfl rfl rfl ⟨⟨_, rfl, .refl _⟩, rfl, ⟨_, rfl, AVLe.of_eq (by rw [hgo]; rfl)⟩, rfl, ⟨_, rfl, .refl _⟩, rfl, trivial⟩ trivial)
 ·have he : i = l.length := by omega
  subst he
  have d1 : decide ((l.length : Int) < ((byI l).length : Int)) = false := dF (by omega)
  rw [List.take_length, show hexP l = l.flatMap hexB from if_neg hn]
  refine qR ?_;iterate 2 refine rC ?_
  refine rQ iE ?_;refine rC ?_;refine nS ?_;refine wF ?_;refine wc_exit ?_;refine seq_x ?_;refine loop_x ?_;refine blk_x ?_;refine seq_n ?_;refine sR ?_;iterate 2 refine rC ?_
  refine nS ?_;refine wc_ret ?_
  exact ⟨trivial, [], lf⟩
def cA (p : SAct → Bool) (l : List SAct) : Nat := l.countP p
theorem cA_go {p : SAct → Bool} {l : List SAct} {i : Nat} {a : SAct} (h : l[i]? = some a) : cA p (l.take (i + 1)) = cA p (l.take i) + if p a = true then 1 else 0 := by
 rw [List.take_add_one, h, Option.toList_some, cA, cA, List.countP_append, List.countP_cons, List.countP_nil, Nat.zero_add]
theorem cA_le (p : SAct → Bool) (l : List SAct) : cA p l ≤ l.length := List.countP_le_length
def isP (a : SAct) : Bool := decide (a.kind = 1)
def isE (a : SAct) : Bool := decide (a.kind = 2) || decide (a.kind = 3) || decide (a.kind = 4)
def isF (a : SAct) : Bool := decide (a.kind = 5)
theorem countA_is (c : SCfg) (l : List (List POp)) (bs : List SAct) (hL : bs.length ≤ 1000000000) : FnIs Tryz.prog 20 [.d (encScr c l bs)] [] (.tup (.acons (.int .i64 (cA isP bs)) (.acons (.int .i64 (cA isE bs)) (.acons (.int .i64 (cA isF bs)) .anil)))) [] := by
 refine fnIs_of tab_ok Tryz.func20 rfl rfl rfl ?_;refine sR ?_;refine rN ?_;iterate 3 refine rC ?_
 refine nQ ?_;refine sR ?_;refine rC ?_;refine rQ iB ?_;refine rQ iE ?_;refine rC ?_;refine nS ?_;refine wc_block ?_
 refine wc_inv (fun i : Nat => ⟨[(10, .int .i64 i), (9, .int .i64 bs.length), (8, .d (encAs bs)), (2, .int .i64 (cA isP (bs.take i))), (3, .int .i64 (cA isE (bs.take i))), (4, .int .i64 (cA isF (bs.take i)))], [], 72, Tryz.f20.ntmps, 64⟩) (fun i => i ≤ bs.length) (fun i => bs.length - i) 0 [] (Nat.zero_le _)
  (.of rfl rfl rfl rfl rfl ⟨⟨_, rfl, .refl _⟩, rfl, ⟨_, rfl, .refl _⟩, rfl, ⟨_, rfl, .refl _⟩, rfl, ⟨_, rfl, .refl _⟩, rfl, ⟨_, rfl, .refl _⟩, rfl, ⟨_, rfl, .refl _⟩, rfl, trivial⟩ trivial) ?_
 intro i hi
 refine wc_of ?_
 by_cases hlt : i < bs.length
 ·have d0 : decide ((i : Int) < (bs.length : Int)) = true := dT (by omega)
  obtain ⟨a, ha⟩ : ∃ a, bs[i]? = some a := ⟨_, List.getElem?_eq_getElem hlt⟩
  have ha2 : bs[((i : Int)).toNat]? = some a := by rw [Int.toNat_natCast]; exact ha
  have g1 := cA_go (p := isP) ha
  have g2 := cA_go (p := isE) ha
  have g3 := cA_go (p := isF) ha
  have b1 := cA_le isP (bs.take i)
  have b2 := cA_le isE (bs.take i)
  have b3 := cA_le isF (bs.take i)
  rw [List.length_take] at b1 b2 b3
  refine sR ?_;refine rC ?_;refine nQ ?_;refine wT ?_;refine kS ?_;refine wc_seq ?_;refine wc_block ?_;refine sR ?_;refine rQ (index_arr tab_ok rfl rfl rfl rfl rfl (by omega) ha2) ?_
  refine rQ iL ?_;refine rN ?_;refine rW ?_;refine nR ?_;refine rC ?_;refine rQ iB ?_;refine nS ?_;refine wc_block ?_;refine sR ?_;iterate 2 refine rC ?_
  refine nS ?_
  by_cases k1 : a.kind = 1
  ·skip
   have d1 : decide (a.kind = 1) = true := dT (by omega)
   rw [if_pos (by simp [isP]; omega)] at g1
   rw [if_neg (by simp [isE]; omega)] at g2
   rw [if_neg (by simp [isF]; omega)] at g3
   refine wT ?_;refine wc_region ?_;refine rC ?_;refine rQ iD ?_;refine rC ?_;refine reg_nil ?_;iterate 2 refine blk_n ?_
   refine seq_n ?_;refine wc_region ?_;refine rQ iD ?_;refine rC ?_;refine reg_nil ?_
   exact loop_n (i + 1) [] hlt (by omega) (.of rfl rfl rfl rfl rfl ⟨⟨_, rfl, .refl _⟩, rfl, ⟨_, rfl, .refl _⟩, rfl, ⟨_, rfl, .refl _⟩, rfl, ⟨_, rfl, AVLe.of_eq (by rw [g1]; rfl)⟩, rfl, ⟨_, rfl, AVLe.of_eq (by rw [g2]; rfl)⟩, rfl, ⟨_, rfl, AVLe.of_eq (by rw [g3]; rfl)⟩, rfl, trivial⟩ trivial)
  by_cases k2 : a.kind = 2
  ·skip
   have d1 : decide (a.kind = 1) = false := dF (by omega)
   have d2 : decide (a.kind = 2) = true := dT (by omega)
   rw [if_neg (by simp [isP]; omega)] at g1
   rw [if_pos (by simp [isE]; omega)] at g2
   rw [if_neg (by simp [isF]; omega)] at g3
   refine wF ?_;refine qR ?_;iterate 2 refine rC ?_
   refine nS ?_;refine wT ?_;refine kS ?_;refine wT ?_;refine wc_region ?_;refine rC ?_;refine rQ iD ?_;refine rC ?_;refine reg_nil ?_;iterate 2 refine blk_n ?_
   refine seq_n ?_;refine wc_region ?_;refine rQ iD ?_;refine rC ?_;refine reg_nil ?_
   exact loop_n (i + 1) [] hlt (by omega) (.of rfl rfl rfl rfl rfl ⟨⟨_, rfl, .refl _⟩, rfl, ⟨_, rfl, .refl _⟩, rfl, ⟨_, rfl, .refl _⟩, rfl, ⟨_, rfl, AVLe.of_eq (by rw [g1]; rfl)⟩, rfl, ⟨_, rfl, AVLe.of_eq (by rw [g2]; rfl)⟩, rfl, ⟨_, rfl, AVLe.of_eq (by rw [g3]; rfl)⟩, rfl, trivial⟩ trivial)
  by_cases k3 : a.kind = 3
  ·skip
   have d1 : decide (a.kind = 1) = false := dF (by omega)
   have d2 : decide (a.kind = 2) = false := dF (by omega)
   have d3 : decide (a.kind = 3) = true := dT (by omega)
   rw [if_neg (by simp [isP]; omega)] at g1
   rw [if_pos (by simp [isE]; omega)] at g2
   rw [if_neg (by simp [isF]; omega)] at g3
   refine wF ?_;refine qR ?_;iterate 2 refine rC ?_
   refine nS ?_;refine wF ?_;refine sR ?_;iterate 2 refine rC ?_
   refine nS ?_;refine wT ?_;refine kS ?_;refine wT ?_;refine wc_region ?_;refine rC ?_;refine rQ iD ?_;refine rC ?_;refine reg_nil ?_;iterate 2 refine blk_n ?_
   refine seq_n ?_;refine wc_region ?_;refine rQ iD ?_;refine rC ?_;refine reg_nil ?_
   exact loop_n (i + 1) [] hlt (by omega) (.of rfl rfl rfl rfl rfl ⟨⟨_, rfl, .refl _⟩, rfl, ⟨_, rfl, .refl _⟩, rfl, ⟨_, rfl, .refl _⟩, rfl, ⟨_, rfl, AVLe.of_eq (by rw [g1]; rfl)⟩, rfl, ⟨_, rfl, AVLe.of_eq (by rw [g2]; rfl)⟩, rfl, ⟨_, rfl, AVLe.of_eq (by rw [g3]; rfl)⟩, rfl, trivial⟩ trivial)
  by_cases k4 : a.kind = 4
  ·skip
   have d1 : decide (a.kind = 1) = false := dF (by omega)
   have d2 : decide (a.kind = 2) = false := dF (by omega)
   have d3 : decide (a.kind = 3) = false := dF (by omega)
   have d4 : decide (a.kind = 4) = true := dT (by omega)
   rw [if_neg (by simp [isP]; omega)] at g1
   rw [if_pos (by simp [isE]; omega)] at g2
   rw [if_neg (by simp [isF]; omega)] at g3
   refine wF ?_;refine qR ?_;iterate 2 refine rC ?_
   refine nS ?_;refine wF ?_;refine sR ?_;iterate 2 refine rC ?_
   refine nS ?_;refine wF ?_;refine wc_region ?_;iterate 2 refine rC ?_
   refine nS ?_;refine wT ?_;refine wc_region ?_;refine rC ?_;refine rQ iD ?_;refine rC ?_;refine reg_nil ?_;iterate 2 refine blk_n ?_
   refine seq_n ?_;refine wc_region ?_;refine rQ iD ?_;refine rC ?_;refine reg_nil ?_
   exact loop_n (i + 1) [] hlt (by omega) (.of rfl rfl rfl rfl rfl ⟨⟨_, rfl, .refl _⟩, rfl, ⟨_, rfl, .refl _⟩, rfl, ⟨_, rfl, .refl _⟩, rfl, ⟨_, rfl, AVLe.of_eq (by rw [g1]; rfl)⟩, rfl, ⟨_, rfl, AVLe.of_eq (by rw [g2]; rfl)⟩, rfl, ⟨_, rfl, AVLe.of_eq (by rw [g3]; rfl)⟩, rfl, trivial⟩ trivial)
  by_cases k5 : a.kind = 5
  ·skip
   have d1 : decide (a.kind = 1) = false := dF (by omega)
   have d2 : decide (a.kind = 2) = false := dF (by omega)
   have d3 : decide (a.kind = 3) = false := dF (by omega)
   have d4 : decide (a.kind = 4) = false := dF (by omega)
   have d5 : decide (a.kind = 5) = true := dT (by omega)
   rw [if_neg (by simp [isP]; omega)] at g1
   rw [if_neg (by simp [isE]; omega)] at g2
   rw [if_pos (by simp [isF]; omega)] at g3
   refine wF ?_;refine qR ?_;iterate 2 refine rC ?_
   refine nS ?_;refine wF ?_;refine sR ?_;iterate 2 refine rC ?_
   refine nS ?_;refine wF ?_;refine wc_region ?_;iterate 2 refine rC ?_
   refine nS ?_;refine wF ?_;refine sR ?_;iterate 2 refine rC ?_
   refine nS ?_;refine wT ?_;refine wc_region ?_;refine rC ?_;refine rQ iD ?_;refine rC ?_;refine reg_nil ?_;iterate 2 refine blk_n ?_
   refine seq_n ?_;refine wc_region ?_;refine rQ iD ?_;refine rC ?_;refine reg_nil ?_
   exact loop_n (i + 1) [] hlt (by omega) (.of rfl rfl rfl rfl rfl ⟨⟨_, rfl, .refl _⟩, rfl, ⟨_, rfl, .refl _⟩, rfl, ⟨_, rfl, .refl _⟩, rfl, ⟨_, rfl, AVLe.of_eq (by rw [g1]; rfl)⟩, rfl, ⟨_, rfl, AVLe.of_eq (by rw [g2]; rfl)⟩, rfl, ⟨_, rfl, AVLe.of_eq (by rw [g3]; rfl)⟩, rfl, trivial⟩ trivial)
  ·skip
   have d1 : decide (a.kind = 1) = false := dF (by omega)
   have d2 : decide (a.kind = 2) = false := dF (by omega)
   have d3 : decide (a.kind = 3) = false := dF (by omega)
   have d4 : decide (a.kind = 4) = false := dF (by omega)
   have d5 : decide (a.kind = 5) = false := dF (by omega)
   rw [if_neg (by simp [isP]; omega)] at g1
   rw [if_neg (by simp [isE]; omega)] at g2
   rw [if_neg (by simp [isF]; omega)] at g3
   refine wF ?_;refine qR ?_;iterate 2 refine rC ?_
   refine nS ?_;refine wF ?_;refine sR ?_;iterate 2 refine rC ?_
   refine nS ?_;refine wF ?_;refine wc_region ?_;iterate 2 refine rC ?_
   refine nS ?_;refine wF ?_;refine sR ?_;iterate 2 refine rC ?_
   refine nS ?_;refine wF ?_;refine wc_skip ?_;iterate 2 refine blk_n ?_
   refine seq_n ?_;refine wc_region ?_;refine rQ iD ?_;refine rC ?_;refine reg_nil ?_
   exact loop_n (i + 1) [] hlt (by omega) (.of rfl rfl rfl rfl rfl ⟨⟨_, rfl, .refl _⟩, rfl, ⟨_, rfl, .refl _⟩, rfl, ⟨_, rfl, .refl _⟩, rfl, ⟨_, rfl, AVLe.of_eq (by rw [g1]; rfl)⟩, rfl, ⟨_, rfl, AVLe.of_eq (by rw [g2]; rfl)⟩, rfl, ⟨_, rfl, AVLe.of_eq (by rw [g3]; rfl)⟩, rfl, trivial⟩ trivial)
 ·have he : i = bs.length := by omega
  subst he
  have d0 : decide ((bs.length : Int) < (bs.length : Int)) = false := dF (by omega)
  rw [List.take_length]
  refine sR ?_;refine rC ?_;refine nQ ?_;refine wF ?_;refine wc_exit ?_;refine seq_x ?_;refine loop_x ?_;refine blk_x ?_;refine seq_n ?_;refine sR ?_;iterate 6 refine rC ?_
  refine nS ?_;refine wc_ret ?_
  exact ⟨trivial, [], lf⟩
def encAN : Option SAct → D
 | none => .cons (u8s 0) (.cons (i6 0) (.cons (i6 0) (.cons (.sc (.slice none 0 0)) (.cons (i6 0) .nil))))
 | some a => encAct a
def pickA (n : Int) : SAct := ⟨1, n, 0, [], 0⟩
def encAV : Bool × SAct → D
 | (true, a) => .cons (u8s a.kind) (.cons (i6 a.thread) (.cons (i6 a.sector) (.cons (.sc nil_) (.cons (i6 a.back) .nil))))
 | (false, a) => encAct a
def AVOk (x : Bool × SAct) : Prop := x.1 = true → x.2.bytes = []
theorem encAV_le {x : Bool × SAct} (h : AVOk x) : DLe (encAV x) (encAct x.2) := by
 obtain ⟨b, ⟨k, t, s, y, r⟩⟩ := x
 cases b with
 | false => exact fun _ _ _ h => h
 | true =>
  have : y = [] := h rfl
  subst this
  exact act_dle k t s r
theorem encAVs_le {l : List (Bool × SAct)} {bs : List SAct} (hb : bs = l.map (·.2)) (h : ∀ x ∈ l, AVOk x) : DLe (.arr 5 encAV l) (encAs bs) := dle_arr hb fun x hx => encAV_le (h x hx)
theorem encAV_size (x : Bool × SAct) : (encAV x).size = 5 := by obtain ⟨b, a⟩ := x; cases b <;> rfl
end Go.Proofs.YthiijfbcfoifnaaGreatDoor
namespace Go.Eng
section
variable {P : Program} {T : Tab} {env : Env} {h : Upds} {n : Nat}
theorem conv_bytesS (hT : TabOk P T) {t t' e : TypeId} {x : Operand} {l : List UInt8} (ht : tdesc T t = some (.slice e)) (he : tdesc T e = some (.int .u8)) (ht' : tdesc T t' = some .string) (hx : evalA env x = some (.d (.arr 1 encU8 (byI l)))) :
  StepIs P (.convert t t' x) env h n (some (.d (strD l))) [] := by
 have := conv_bytes (h := h) (n := n) hT ht he ht' hx
 rw [strOf_byI] at this
 exact this
end
end Go.Eng
namespace Go.Plain
open Go.Eng Go.Lib
theorem splitL_snoc (c b : UInt8) : ∀ (l : List UInt8), ∃ ws w, splitL l c = ws ++ [w] ∧ splitL (l ++ [b]) c = if b = c then ws ++ [w] ++ [[]] else ws ++ [w ++ [b]]
 | [] => ⟨[], [], rfl, by
   simp only [List.nil_append, splitL]
   split <;> rfl⟩
 | a :: l => by
  obtain ⟨ws, w, h1, h2⟩ := splitL_snoc c b l
  by_cases ha : a = c
  ·refine ⟨[] :: ws, w, by rw [splitL, if_pos ha, h1]; rfl, ?_⟩
   rw [List.cons_append, splitL, if_pos ha, h2]
   split <;> rfl
  ·cases ws with
   | nil =>
    refine ⟨[], a :: w, by rw [splitL, if_neg ha, h1]; rfl, ?_⟩
    rw [List.cons_append, splitL, if_neg ha, h2]
    by_cases hb : b = c
    ·simp only [if_pos hb]; rfl
    ·simp only [if_neg hb]; rfl
   | cons v ws =>
    refine ⟨(a :: v) :: ws, w, by rw [splitL, if_neg ha, h1]; rfl, ?_⟩
    rw [List.cons_append, splitL, if_neg ha, h2]
    by_cases hb : b = c
    ·simp only [if_pos hb]; rfl
    ·simp only [if_neg hb]; rfl
end Go.Plain
namespace Go.Proofs.YthiijfbcfoifnaaGreatDoor
open Go.Eng Go.Plain
set_option maxHeartbeats 4000000
set_option maxRecDepth 20000
attribute [local irreducible] WC RegS RegD SeqQ BlkQ ScoQ RegK CutK Sat SatN FnIs LoopQ StepIs OpIs
theorem row_ex {t : TypeId} {s : Nat} {ex : Bool} {α : Type} {enc : α → D} {xs : List α} : RowLe (.ds t s ex enc xs) (.ds t s false enc xs) := by
 intro σ w X r h
 rcases h with h | ⟨b, c, cur, h1, _, h3⟩
 ·exact .inl h
 ·exact .inr ⟨b, c, cur, h1, (fun h => by cases h), h3⟩
theorem row_first {ex : Bool} : RowLe (.lits 9 1 1 ex (.acons (.d (strD [])) .anil)) (rowS [[]]) := fun σ w X r h => row_ex σ w X r (RowLe.lits_ds (xs := [[]]) (enc := strD) (fun _ => rfl) rfl σ w X r h)
theorem rcut34_own (s : List UInt8) (c : UInt8) (hs : s.length ≤ 1048575) : FnIs Tryz.prog 41 [.d (strD s), .int .u8 c.toNat] [] (.own 64 0 (splitL s c).length 1 none) [(64, rowS (splitL s c))] := by
 refine fnIs_of tab_ok Tryz.func41 rfl rfl rfl ?_;refine sR ?_;refine rC ?_;refine nR ?_;refine reg_new (build_slice (s := 1) tab_ok rfl rfl rfl rfl rfl rfl rfl rfl) rfl ?_
 refine rC ?_;refine nQ ?_;refine sR ?_;refine rC ?_;refine nS ?_;refine wc_block ?_
 refine wc_inv (fun i : Nat => ⟨[(6, .int .i64 i), (5, .own 65 0 (splitL (s.take i) c).length 1 none), (1, .int .u8 c.toNat), (0, .d (strD s))], [(65, some (rowS (splitL (s.take i) c)))], 72, Tryz.f41.ntmps, 64⟩) (fun i => i ≤ s.length) (fun i => s.length - i) 0 [(65, some 72)] (Nat.zero_le _)
  (.of rfl rfl rfl rfl rfl ⟨⟨_, rfl, .refl _⟩, rfl, ⟨_, rfl, .refl _⟩, rfl, ⟨_, rfl, .refl _⟩, rfl, ⟨_, rfl, .refl _⟩, rfl, trivial⟩ ⟨⟨rfl, rfl, _, rfl, row_first⟩, trivial⟩) ?_
 intro i hi
 refine wc_of ?_;refine qR ?_;iterate 2 refine rC ?_
 refine rQ (len_s tab_ok rfl rfl) ?_;refine rC ?_;refine nS ?_
 refine wc_cond rfl (fun h3 => ?_) (fun h3 => ?_)
 ·have hlt : i < s.length := by have := of_decide_eq_true h3; omega
  obtain ⟨b, hb⟩ : ∃ b, s[i]? = some b := ⟨_, List.getElem?_eq_getElem hlt⟩
  obtain ⟨ws, w, h1, h2⟩ := splitL_snoc c b (s.take i)
  have ht : s.take (i + 1) = s.take i ++ [b] := by rw [List.take_add_one, hb]; rfl
  rw [← ht] at h2
  have hsl := splitL_len (s.take i) c
  rw [h1, List.length_take] at hsl
  rw [h1]
  by_cases hbc : b = c
  ·have hd : decide ((b.toNat : Int) = (c.toNat : Int)) = true := dT (by rw [hbc])
   rw [if_pos hbc] at h2
   have hL : (ws ++ [w]).length = (ws ++ [w]).length := rfl
   have hlen : (ws ++ [w]).length + [([] : List UInt8)].length ≤ 1048576 := by simp only [List.length_cons, List.length_nil]; omega
   have hlq : (splitL (s.take (i + 1)) c).length = (ws ++ [w]).length + [([] : List UInt8)].length := by rw [h2, List.length_append]
   refine kS ?_;refine wc_seq ?_;refine wc_block ?_;refine qR ?_;iterate 2 refine rC ?_
   refine rQ (index_s (l := s) (m := i) tab_ok rfl rfl rfl hb) ?_;iterate 2 refine rC ?_
   refine nS ?_;refine wT ?_;refine sR ?_;refine rC ?_;refine reg_new (build_slice (s := 1) tab_ok rfl rfl rfl rfl rfl rfl rfl rfl) rfl ?_;refine reg_new2 (append_litsL (α := List UInt8) (s := 1) (enc := strD) (xs := ws ++ [w]) tab_ok [[]] rfl rfl rfl rfl rfl hL rfl rfl rfl rfl (fun _ _ => rfl) (by decide) hlen rfl) rfl ?_
   refine rC ?_;refine nS ?_;refine wc_exit ?_;refine seq_x ?_;refine blk_x ?_;refine seq_n ?_;refine wc_region ?_;refine rC ?_;refine rQ iD ?_;refine rC ?_;refine reg_nil ?_
   exact loop_n (i + 1) [(65, some 160)] hlt (by omega) (.of rfl rfl rfl rfl rfl ⟨⟨_, rfl, .refl _⟩, rfl, ⟨_, rfl, AVLe.of_eq (by rw [hlq]; rfl)⟩, rfl, ⟨_, rfl, .refl _⟩, rfl, ⟨_, rfl, .refl _⟩, rfl, trivial⟩ ⟨⟨rfl, rfl, _, rfl, RowLe.of_eq (by rw [h2]; rfl)⟩, trivial⟩)
  ·have hne : ¬ ((b.toNat : Int) = (c.toNat : Int)) := fun e => hbc (UInt8.toNat_inj.1 (by omega))
   have hd : decide ((b.toNat : Int) = (c.toNat : Int)) = false := dF hne
   rw [if_neg hbc] at h2
   have hwl : (ws ++ [w]).length = ws.length + 1 := by simp
   have hwm : IntKind.i64.wrap ((((ws ++ [w]).length : Nat) : Int) - 1) = (ws.length : Int) := by rw [hwl, wrap_i64 (by omega) (by omega)]; omega
   have hgw : (ws ++ [w])[((ws.length : Int)).toNat]? = some w := by rw [Int.toNat_natCast]; simp
   have hi1 : i + 1 ≤ s.length := hlt
   have hcut : (s.drop i).take (i + 1 - i) = [b] := by
    rw [List.drop_eq_getElem_cons hlt, show i + 1 - i = 1 by omega]
    have : s[i] = b := (List.getElem?_eq_some_iff.1 hb).2
    simp [this]
   have hwle : w.length ≤ s.length := by
    have := split_mem_le (s.take i) c w (by rw [h1]; simp)
    rw [List.length_take] at this
    omega
   have hladd : w.length + [b].length ≤ 9223372036854775807 := by simp; omega
   have hset : (ws ++ [w]).set (((ws.length : Int)).toNat) (w ++ [b]) = ws ++ [w ++ [b]] := by rw [Int.toNat_natCast, List.set_append_right _ _ (Nat.le_refl _)]; simp
   have hlq : (splitL (s.take (i + 1)) c).length = (ws ++ [w]).length := by rw [h2]; simp
   refine kS ?_;refine wc_seq ?_;refine wc_block ?_;refine qR ?_;iterate 2 refine rC ?_
   refine rQ (index_s (l := s) (m := i) tab_ok rfl rfl rfl hb) ?_;iterate 2 refine rC ?_
   refine nS ?_;refine wF ?_;refine kS ?_;refine wc_draw (by kernel_rfl) ?_;iterate 2 refine dC [5] [] ?_
   refine dQ [23] [65] (len_own tab_ok rfl rfl) ?_;refine dQ [24] [] (sub_int (m := (ws.length : Int)) tab_ok rfl rfl hwm) ?_;iterate 2 refine dC [5] [] ?_
   refine dQ [27] [65] (len_own tab_ok rfl rfl) ?_;refine dQ [28] [] (sub_int (m := (ws.length : Int)) tab_ok rfl rfl hwm) ?_;refine dQ [26, 29] [] (index_own tab_ok rfl rfl rfl rfl rfl (by omega) (by omega)) ?_
   refine dQ [30] [65] (load_row tab_ok rfl rfl ⟨rfl, w, hgw, _, rfl, rfl⟩ rfl) ?_;refine dC [0] [] ?_;refine dC [6] [] ?_;refine dQ [32, 33] [] (index_s (l := s) (m := i) tab_ok rfl rfl rfl hb) ?_
   refine dQ [34] [] (StepIs.frozen (build_slice (s := 1) tab_ok rfl rfl rfl rfl rfl rfl rfl rfl) (Frz.lits1 (enc := encU8) (b.toNat : Int) rfl rfl)) ?_;refine dQ [35] [] (conv_bytesS (l := [b]) tab_ok rfl rfl rfl rfl) ?_
   refine dQ [31, 36] [] (add_str (a := w) (b := [b]) rfl rfl hladd rfl) ?_;refine dQ [22, 25] [] (index_own tab_ok rfl rfl rfl rfl rfl (by omega) (by omega)) ?_;refine dreg_s [38, 37] [65] (store_row tab_ok rfl rfl rfl ⟨rfl, w, w ++ [b], hgw, ⟨rfl, rfl, rfl⟩, rfl⟩ rfl) ?_
   refine dreg_end (by kernel_rfl) ?_;refine blk_n ?_;refine seq_n ?_;refine wc_region ?_;refine rC ?_;refine rQ iD ?_;refine rC ?_;refine reg_nil ?_
   exact loop_n (i + 1) [] hlt (by omega) (.of rfl rfl rfl rfl rfl ⟨⟨_, rfl, .refl _⟩, rfl, ⟨_, rfl, AVLe.of_eq (by rw [hlq]; rfl)⟩, rfl, ⟨_, rfl, .refl _⟩, rfl, ⟨_, rfl, .refl _⟩, rfl, trivial⟩ ⟨⟨rfl, rfl, _, rfl, RowLe.of_eq (by rw [h2, ← hset]; rfl)⟩, trivial⟩)
 ·have he : i = s.length := by have := of_decide_eq_false h3; omega
  subst he
  rw [List.take_length]
  refine wc_exit ?_;refine seq_x ?_;refine loop_x ?_;refine blk_x ?_;refine seq_n ?_;refine sR ?_;iterate 2 refine rC ?_
  refine nS ?_;refine wc_ret ?_
  exact ⟨trivial, [(64, some 65)], .of rfl rfl rfl rfl rfl ⟨⟨_, rfl, AVLe.of_eq rfl⟩, rfl, trivial⟩ ⟨⟨rfl, rfl, _, rfl, .refl _⟩, trivial⟩⟩
theorem rcut34_is (s : List UInt8) (c : UInt8) (hs : s.length ≤ 1048575) : FnIs Tryz.prog 41 [.d (strD s), .int .u8 c.toNat] [] (.d (.arr 1 strD (splitL s c))) [] :=
 (rcut34_own s c hs).freeze_out 64 _ rfl (Frz.own rfl) trivial
end Go.Proofs.YthiijfbcfoifnaaGreatDoor
namespace Go.Plain
open Go.Eng Go.Lib
def valF (a : Nat) (w : List UInt8) : Nat := w.foldl (fun n b => 10 * n + (b.toNat - 48)) a
def valN (w : List UInt8) : Nat := valF 0 w
def Digs (w : List UInt8) : Prop := ∀ b ∈ w, 48 ≤ b.toNat ∧ b.toNat ≤ 57
theorem val_app (w : List UInt8) (b : UInt8) : valN (w ++ [b]) = 10 * valN w + (b.toNat - 48) := by
 simp [valN, valF, List.foldl_append]
theorem valF_ge (w : List UInt8) : ∀ a, a ≤ valF a w := by
 induction w with
 | nil => exact fun a => Nat.le_refl a
 | cons b w ih => intro a; have := ih (10 * a + (b.toNat - 48)); simp only [valF, List.foldl_cons] at this ⊢; omega
theorem val_take (w : List UInt8) (i : Nat) : valN (w.take i) ≤ valN w := by
 have h : valN w = valF (valN (w.take i)) (w.drop i) := by
  rw [valN, valN, valF, valF, valF, ← List.foldl_append, List.take_append_drop]
 rw [h]; exact valF_ge _ _
theorem dec_val (u : Nat) : valN (decDigits u) = u := by
 induction u using Nat.strongRecOn with
 | ind u ih =>
  rw [decDigits]
  split
  ·have e : (UInt8.ofNat (48 + u)).toNat = 48 + u := by simp only [UInt8.toNat_ofNat']; omega
   simp only [valN, valF, List.foldl_cons, List.foldl_nil, e]; omega
  ·have e : (UInt8.ofNat (48 + u % 10)).toNat = 48 + u % 10 := by simp only [UInt8.toNat_ofNat']; omega
   rw [val_app, ih (u / 10) (by omega), e]; omega
theorem dec_head (u : Nat) (h : 1 ≤ u) : (decDigits u).head? ≠ some 48 := by
 induction u using Nat.strongRecOn with
 | ind u ih =>
  rw [decDigits]
  split
  ·intro e
   simp only [List.head?_cons, Option.some.injEq] at e
   have := congrArg UInt8.toNat e
   simp only [UInt8.toNat_ofNat'] at this
   have h2 : (48 : UInt8).toNat = 48 := rfl
   omega
  ·rw [List.head?_append]
   have := ih (u / 10) (by omega) (by omega)
   have hn := dec_ne (u / 10)
   intro e
   cases hh : (decDigits (u / 10)).head? with
   | none => exact hn (List.head?_eq_none_iff.1 hh)
   | some x => rw [hh] at e; exact this (by rw [hh]; simpa using e)
theorem snocR {α : Type} {p : List α → Prop} (h0 : p []) (h1 : ∀ l a, p l → p (l ++ [a])) (l : List α) : p l := by
 have : ∀ l : List α, p l.reverse := by
  intro l
  induction l with
  | nil => exact h0
  | cons a l ih => rw [List.reverse_cons]; exact h1 _ _ ih
 have h := this l.reverse
 rwa [List.reverse_reverse] at h
theorem can_dec (w : List UInt8) : w ≠ [] → Digs w → (1 < w.length → w.head? ≠ some 48) → decDigits (valN w) = w := by
 induction w using snocR with
 | h0 => exact fun h => absurd rfl h
 | h1 l b ih =>
  intro _ hd hh
  have hb := hd b (by simp)
  rw [val_app]
  cases hl : l with
  | nil =>
   simp only [valN, valF, List.foldl_nil, List.nil_append]
   rw [decDigits, dif_pos (by omega)]
   congr 1
   apply UInt8.toNat_inj.1
   simp only [UInt8.toNat_ofNat']; omega
  | cons x t =>
   rw [← hl]
   have hne : l ≠ [] := by rw [hl]; simp
   have hdl : Digs l := fun y hy => hd y (by simp [hy])
   have hhl : l.head? ≠ some 48 := by
    have := hh (by rw [hl]; simp)
    rw [hl] at this ⊢
    simpa using this
   have e := ih hne hdl (fun _ => hhl)
   have hv : 1 ≤ valN l := by
    rcases Nat.eq_zero_or_pos (valN l) with h0 | h0
    ·exfalso
     rw [h0] at e
     rw [← e, decDigits, dif_pos (by omega)] at hhl
     exact hhl rfl
    ·exact h0
   rw [decDigits, dif_neg (by omega), show (10 * valN l + (b.toNat - 48)) / 10 = valN l by omega, e, show (10 * valN l + (b.toNat - 48)) % 10 = b.toNat - 48 by omega]
   congr 2
   apply UInt8.toNat_inj.1
   simp only [UInt8.toNat_ofNat']; omega
theorem numS_big {B : Nat} {w : List UInt8} (h : 2 ^ B ≤ valN w) : numS B w = none := by
 cases hn : numS B w with
 | none => rfl
 | some u =>
  have h1 := numS_some hn
  have h2 := numS_lt hn
  rw [h1, dec_val] at h
  omega
theorem numS_can {B : Nat} {w : List UInt8} (hB : B ≤ 64) (h0 : w ≠ []) (hd : Digs w) (hh : 1 < w.length → w.head? ≠ some 48) (h : valN w < 2 ^ B) : numS B w = some (valN w) := by
 have e := can_dec w h0 hd hh
 have := numS_dec hB h
 rwa [e] at this
theorem numS_nil (B : Nat) : numS B [] = none := by
 cases hn : numS B [] with
 | none => rfl
 | some u => exact absurd (numS_some hn).symm (dec_ne u)
theorem numS_long {B : Nat} {w : List UInt8} (hB : B ≤ 64) (h : 20 < w.length) : numS B w = none := by
 cases hn : numS B w with
 | none => rfl
 | some u =>
  have h1 := numS_some hn
  have h2 := numS_lt hn
  have h64 : 2 ^ B ≤ 2 ^ 64 := Nat.pow_le_pow_right (by decide) hB
  have := dec_len10 19 u (by omega)
  rw [← h1] at this
  omega
theorem numS_lead {B : Nat} {w : List UInt8} (h1 : 1 < w.length) (h : w.head? = some 48) : numS B w = none := by
 cases hn : numS B w with
 | none => rfl
 | some u =>
  have e := numS_some hn
  rcases Nat.eq_zero_or_pos u with h0 | h0
  ·rw [h0, decDigits, dif_pos (by omega)] at e
   rw [e] at h1
   simp at h1
  ·rw [e] at h
   exact absurd h (dec_head u h0)
theorem numS_dig {B : Nat} {w : List UInt8} {b : UInt8} (hb : b ∈ w) (h : ¬ (48 ≤ b.toNat ∧ b.toNat ≤ 57)) : numS B w = none := by
 cases hn : numS B w with
 | none => rfl
 | some u =>
  have e := numS_some hn
  rw [e] at hb
  exact absurd (dec_mem u b hb) h
def NumOk (w : List UInt8) : Prop := w ≠ [] ∧ w.length ≤ 20 ∧ ¬ (1 < w.length ∧ w.head? = some 48) ∧ Digs w ∧ valN w < 18446744073709551616
theorem numS_not {B : Nat} {w : List UInt8} (hB : B ≤ 64) (h : ¬ NumOk w) : numS B w = none := by
 have h64 : 2 ^ B ≤ 2 ^ 64 := Nat.pow_le_pow_right (by decide) hB
 by_cases h0 : w = []
 ·rw [h0]; exact numS_nil B
 by_cases h1 : w.length ≤ 20
 ·by_cases h2 : 1 < w.length ∧ w.head? = some 48
  ·exact numS_lead h2.1 h2.2
  by_cases h3 : Digs w
  ·refine numS_big ?_
   rcases Nat.lt_or_ge (valN w) 18446744073709551616 with h4 | h4
   ·exact absurd ⟨h0, h1, h2, h3, h4⟩ h
   ·omega
  ·by_cases h5 : ∃ b ∈ w, ¬ (48 ≤ b.toNat ∧ b.toNat ≤ 57)
   ·obtain ⟨b, hb, h6⟩ := h5
    exact numS_dig hb h6
   ·exact absurd (fun b hb => Classical.byContradiction fun h6 => h5 ⟨b, hb, h6⟩) h3
 ·exact numS_long hB (by omega)
theorem numS_yes {B : Nat} {w : List UInt8} (hB : B ≤ 64) (h : NumOk w) : numS B w = if valN w < 2 ^ B then some (valN w) else none := by
 obtain ⟨h0, h1, h2, h3, h4⟩ := h
 split
 ·rename_i hlt
  exact numS_can hB h0 h3 (fun a b => h2 ⟨a, b⟩) hlt
 ·exact numS_big (by omega)
end Go.Plain
namespace Go.Proofs.YthiijfbcfoifnaaGreatDoor
open Go.Eng Go.Plain
set_option maxHeartbeats 4000000
set_option maxRecDepth 20000
attribute [local irreducible] WC RegS RegD SeqQ BlkQ ScoQ RegK CutK Sat SatN FnIs LoopQ StepIs OpIs
theorem rnum34_go (w : List UInt8) (B : Nat) (x : Int) (hB : B ≤ 64) (hx0 : ¬ NumOk w → x = 0) (hx1 : NumOk w → x = (valN w : Int)) : FnIs Tryz.prog 72 [.d (strD w), .int .i64 B] [] (.tup (.acons (.int .u64 x) (.acons (.bool (numS B w).isSome) .anil))) [] := by
 refine fnIs_of tab_ok Tryz.func72 rfl rfl rfl ?_
 by_cases h0 : w = []
 ·have d0 : decide (w = []) = true := dT h0
  have hn : ¬ NumOk w := fun h => h.1 h0
  rw [hx0 hn, numS_not hB hn]
  refine sR ?_;iterate 2 refine rC ?_
  refine nQ ?_;refine sR ?_;refine rC ?_;refine rQ (eql_s (a := w) (b := []) tab_ok rfl rfl rfl) ?_;refine rC ?_;iterate 3 refine rS ?_
  refine rQ iT ?_;refine rC ?_;iterate 4 refine rT ?_
  iterate 3 refine rU ?_
  refine rT ?_;refine rQ iU ?_;refine nS ?_;refine wV ?_;refine sR ?_;iterate 2 refine rC ?_
  refine nS ?_;refine wc_ret ?_;refine seq_r ?_
  exact ⟨trivial, [], lf⟩
 have d0 : decide (w = []) = false := dF h0
 by_cases h1 : 20 < w.length
 ·have d1 : decide (20 < (w.length : Int)) = true := dT (by omega)
  have hn : ¬ NumOk w := fun h => by have := h.2.1; omega
  rw [hx0 hn, numS_not hB hn]
  refine sR ?_;iterate 2 refine rC ?_
  refine nQ ?_;refine sR ?_;refine rC ?_;refine rQ (eql_s (a := w) (b := []) tab_ok rfl rfl rfl) ?_;refine rC ?_;refine rO ?_;refine rC ?_;refine rO ?_;refine rQ (len_s tab_ok rfl rfl) ?_
  refine rO ?_;refine rC ?_;refine rQ iF ?_;refine rC ?_;iterate 4 refine rS ?_
  iterate 3 refine rU ?_
  refine rS ?_;refine rQ iT ?_;refine nS ?_;refine wV ?_;refine sR ?_;iterate 2 refine rC ?_
  refine nS ?_;refine wc_ret ?_;refine seq_r ?_
  exact ⟨trivial, [], lf⟩
 have d1 : decide (20 < (w.length : Int)) = false := dF (by omega)
 obtain ⟨b0, t0, hw0⟩ : ∃ b t, w = b :: t := List.exists_cons_of_ne_nil h0
 have hb0 : w[0]? = some b0 := by rw [hw0]; rfl
 have hhd : w.head? = some b0 := by rw [hw0]; rfl
 by_cases h2 : 1 < w.length ∧ w.head? = some 48
 ·have d2 : decide (1 < (w.length : Int)) = true := dT (by omega)
  have e : b0 = 48 := by rw [hhd] at h2; exact Option.some.inj h2.2
  have d3 : decide ((b0.toNat : Int) = 48) = true := by rw [e]; rfl
  have hn : ¬ NumOk w := fun h => h.2.2.1 h2
  rw [hx0 hn, numS_not hB hn]
  refine sR ?_;iterate 2 refine rC ?_
  refine nQ ?_;refine sR ?_;refine rC ?_;refine rQ (eql_s (a := w) (b := []) tab_ok rfl rfl rfl) ?_;refine rC ?_;refine rO ?_;refine rC ?_;refine rO ?_;refine rQ (len_s tab_ok rfl rfl) ?_
  refine rO ?_;refine rC ?_;refine rQ iF ?_;refine rC ?_;refine rO ?_;refine rC ?_;refine rO ?_;refine rQ (len_s tab_ok rfl rfl) ?_;refine rO ?_;refine rC ?_;refine rO ?_
  refine rC ?_;refine rO ?_;refine rC ?_;refine rO ?_;refine rQ (index_s (l := w) (m := 0) tab_ok rfl rfl rfl hb0) ?_;refine rO ?_;refine rC ?_;refine rO ?_;refine rQ iT ?_
  refine rQ iF ?_;refine nS ?_;refine wT ?_;refine sR ?_;iterate 2 refine rC ?_
  refine nS ?_;refine wc_ret ?_;refine seq_r ?_
  exact ⟨trivial, [], lf⟩
 by_cases h3 : 1 < w.length
 ·have d2 : decide (1 < (w.length : Int)) = true := dT (by omega)
  have e : ¬ b0.toNat = 48 := fun e => h2 ⟨h3, by rw [hhd]; congr 1; exact UInt8.toNat_inj.1 (by rw [e]; rfl)⟩
  have d3 : decide ((b0.toNat : Int) = 48) = false := dF (by omega)
  refine sR ?_;iterate 2 refine rC ?_
  refine nQ ?_;refine sR ?_;refine rC ?_;refine rQ (eql_s (a := w) (b := []) tab_ok rfl rfl rfl) ?_;refine rC ?_;refine rO ?_;refine rC ?_;refine rO ?_;refine rQ (len_s tab_ok rfl rfl) ?_
  refine rO ?_;refine rC ?_;refine rQ iF ?_;refine rC ?_;refine rO ?_;refine rC ?_;refine rO ?_;refine rQ (len_s tab_ok rfl rfl) ?_;refine rO ?_;refine rC ?_;refine rO ?_
  refine rC ?_;refine rO ?_;refine rC ?_;refine rO ?_;refine rQ (index_s (l := w) (m := 0) tab_ok rfl rfl rfl hb0) ?_;refine rO ?_;refine rC ?_;refine rO ?_;refine rQ iT ?_
  refine rQ iF ?_;refine nS ?_;refine wF ?_;refine kS ?_;refine sR ?_;refine rC ?_;refine nQ ?_;refine sR ?_;refine rC ?_;refine nS ?_;refine wc_block ?_
  refine wc_inv (fun i : Nat => ⟨[(7, .int .i64 i), (6, .int .u64 (valN (w.take i))), (0, .d (strD w)), (1, .int .i64 B)], [], 64, Tryz.f72.ntmps, 64⟩) (fun i => i ≤ w.length ∧ Digs (w.take i) ∧ valN (w.take i) < 18446744073709551616) (fun i => w.length - i) 0 [] ⟨Nat.zero_le _, (show Digs (w.take 0) from fun b hb => by rw [List.take_zero] at hb; exact absurd hb (by simp)), by rw [List.take_zero]; decide⟩
   (.of rfl rfl rfl rfl rfl ⟨⟨_, rfl, .refl _⟩, rfl, ⟨_, rfl, .refl _⟩, rfl, ⟨_, rfl, .refl _⟩, rfl, ⟨_, rfl, .refl _⟩, rfl, trivial⟩ trivial) ?_
  rintro i ⟨hi, hdg, hvl⟩
  refine wc_of ?_
  by_cases hlt : i < w.length
  ·have d4 : decide ((i : Int) < (w.length : Int)) = true := dT (by omega)
   obtain ⟨b, hb⟩ : ∃ b, w[i]? = some b := ⟨_, List.getElem?_eq_getElem hlt⟩
   have hb8 : b.toNat < 256 := b.toNat_lt
   have hbm : b ∈ w := List.mem_of_getElem? hb
   have htk : w.take (i + 1) = w.take i ++ [b] := by rw [List.take_add_one, hb]; rfl
   have hw35 : IntKind.u64.wrap (b.toNat : Int) = (b.toNat : Int) := wrap_u64 (by omega) (by omega)
   obtain ⟨d, hd, hdn⟩ : ∃ d : Int, IntKind.u64.wrap ((b.toNat : Int) - 48) = d ∧ (48 ≤ b.toNat → d = ((b.toNat - 48 : Nat) : Int)) := ⟨_, rfl, fun h => by rw [show (b.toNat : Int) - 48 = ((b.toNat - 48 : Nat) : Int) by omega]; exact wrap_u64 (by omega) (by omega)⟩
   by_cases k1 : b.toNat < 48
   ·have e1 : decide ((b.toNat : Int) < 48) = true := dT (by omega)
    have hn : ¬ NumOk w := fun h => by have := h.2.2.2.1 b hbm; omega
    rw [hx0 hn, numS_not hB hn]
    refine qR ?_;iterate 2 refine rC ?_
    refine rQ (len_s tab_ok rfl rfl) ?_;refine rC ?_;refine nS ?_;refine wT ?_;refine kS ?_;refine wc_seq ?_;refine wc_block ?_;refine sR ?_;iterate 2 refine rC ?_
    refine rQ (index_s (l := w) (m := i) tab_ok rfl rfl rfl hb) ?_;refine rQ (conv_int (m := (b.toNat : Int)) tab_ok rfl rfl rfl hw35) ?_;refine rQ (sub_int (m := d) tab_ok rfl rfl hd) ?_
    refine rC ?_;refine nQ ?_;refine sR ?_;iterate 2 refine rC ?_
    refine rQ (index_s (l := w) (m := i) tab_ok rfl rfl rfl hb) ?_;iterate 2 refine rC ?_
    iterate 4 refine rS ?_
    refine rQ iT ?_;refine rC ?_;iterate 5 refine rT ?_
    refine rQ iU ?_;refine nS ?_;refine wV ?_;refine sR ?_;iterate 2 refine rC ?_
    refine nS ?_;refine wc_ret ?_;refine seq_r ?_;refine blk_r ?_;refine seq_r ?_;refine loop_r ?_;refine blk_r ?_;refine seq_r ?_
    exact ⟨trivial, [], lf⟩
   have e1 : decide ((b.toNat : Int) < 48) = false := dF (by omega)
   obtain rfl := hdn (by omega)
   by_cases k2 : 57 < b.toNat
   ·have e2 : decide (57 < (b.toNat : Int)) = true := dT (by omega)
    have hn : ¬ NumOk w := fun h => by have := h.2.2.2.1 b hbm; omega
    rw [hx0 hn, numS_not hB hn]
    refine qR ?_;iterate 2 refine rC ?_
    refine rQ (len_s tab_ok rfl rfl) ?_;refine rC ?_;refine nS ?_;refine wT ?_;refine kS ?_;refine wc_seq ?_;refine wc_block ?_;refine sR ?_;iterate 2 refine rC ?_
    refine rQ (index_s (l := w) (m := i) tab_ok rfl rfl rfl hb) ?_;refine rQ (conv_int (m := (b.toNat : Int)) tab_ok rfl rfl rfl hw35) ?_;refine rQ (sub_int (m := ((b.toNat - 48 : Nat) : Int)) tab_ok rfl rfl hd) ?_
    refine rC ?_;refine nQ ?_;refine sR ?_;iterate 2 refine rC ?_
    refine rQ (index_s (l := w) (m := i) tab_ok rfl rfl rfl hb) ?_;iterate 2 refine rC ?_
    refine rO ?_;refine rC ?_;refine rO ?_;refine rC ?_;refine rO ?_;refine rQ (index_s (l := w) (m := i) tab_ok rfl rfl rfl hb) ?_;refine rO ?_;refine rC ?_;refine rQ iF ?_
    refine rC ?_;iterate 5 refine rS ?_
    refine rQ iT ?_;refine nS ?_;refine wV ?_;refine sR ?_;iterate 2 refine rC ?_
    refine nS ?_;refine wc_ret ?_;refine seq_r ?_;refine blk_r ?_;refine seq_r ?_;refine loop_r ?_;refine blk_r ?_;refine seq_r ?_
    exact ⟨trivial, [], lf⟩
   have e2 : decide (57 < (b.toNat : Int)) = false := dF (by omega)
   have hw50 : IntKind.u64.wrap (18446744073709551615 - ((b.toNat - 48 : Nat) : Int)) = ((18446744073709551615 - (b.toNat - 48) : Nat) : Int) := by
    rw [show (18446744073709551615 : Int) - ((b.toNat - 48 : Nat) : Int) = ((18446744073709551615 - (b.toNat - 48) : Nat) : Int) by omega]
    exact wrap_u64 (by omega) (by omega)
   have hw51 : IntKind.u64.wrap (((18446744073709551615 - (b.toNat - 48)) / 10 : Nat) : Int) = (((18446744073709551615 - (b.toNat - 48)) / 10 : Nat) : Int) := wrap_u64 (by omega) (by omega)
   have hv := val_app (w.take i) b
   rw [← htk] at hv
   by_cases k3 : (18446744073709551615 - (b.toNat - 48)) / 10 < valN (w.take i)
   ·have e3 : decide ((((18446744073709551615 - (b.toNat - 48)) / 10 : Nat) : Int) < (valN (w.take i) : Int)) = true := dT (by omega)
    have hn : ¬ NumOk w := fun h => by
     have h4 := h.2.2.2.2
     have := val_take w (i + 1)
     omega
    rw [hx0 hn, numS_not hB hn]
    refine qR ?_;iterate 2 refine rC ?_
    refine rQ (len_s tab_ok rfl rfl) ?_;refine rC ?_;refine nS ?_;refine wT ?_;refine kS ?_;refine wc_seq ?_;refine wc_block ?_;refine sR ?_;iterate 2 refine rC ?_
    refine rQ (index_s (l := w) (m := i) tab_ok rfl rfl rfl hb) ?_;refine rQ (conv_int (m := (b.toNat : Int)) tab_ok rfl rfl rfl hw35) ?_;refine rQ (sub_int (m := ((b.toNat - 48 : Nat) : Int)) tab_ok rfl rfl hd) ?_
    refine rC ?_;refine nQ ?_;refine sR ?_;iterate 2 refine rC ?_
    refine rQ (index_s (l := w) (m := i) tab_ok rfl rfl rfl hb) ?_;iterate 2 refine rC ?_
    refine rO ?_;refine rC ?_;refine rO ?_;refine rC ?_;refine rO ?_;refine rQ (index_s (l := w) (m := i) tab_ok rfl rfl rfl hb) ?_;refine rO ?_;refine rC ?_;refine rQ iF ?_
    refine rC ?_;refine rO ?_;refine rC ?_;refine rO ?_;refine rC ?_;refine rO ?_;refine rQ (sub_int (m := ((18446744073709551615 - (b.toNat - 48) : Nat) : Int)) tab_ok rfl rfl hw50) ?_
    refine rO ?_;refine rQ (quo_nat (a := 18446744073709551615 - (b.toNat - 48)) (b := 10) tab_ok rfl rfl rfl (by decide) hw51) ?_;refine rO ?_;refine rC ?_;refine rQ iF ?_
    refine nS ?_;refine wT ?_;refine sR ?_;iterate 2 refine rC ?_
    refine nS ?_;refine wc_ret ?_;refine seq_r ?_;refine blk_r ?_;refine seq_r ?_;refine loop_r ?_;refine blk_r ?_;refine seq_r ?_
    exact ⟨trivial, [], lf⟩
   have e3 : decide ((((18446744073709551615 - (b.toNat - 48)) / 10 : Nat) : Int) < (valN (w.take i) : Int)) = false := dF (by omega)
   have hw55 : IntKind.u64.wrap (10 * (valN (w.take i) : Int)) = ((10 * valN (w.take i) : Nat) : Int) := by
    rw [show 10 * (valN (w.take i) : Int) = ((10 * valN (w.take i) : Nat) : Int) by omega]
    exact wrap_u64 (by omega) (by omega)
   have hw57 : IntKind.u64.wrap (((10 * valN (w.take i) : Nat) : Int) + ((b.toNat - 48 : Nat) : Int)) = ((10 * valN (w.take i) + (b.toNat - 48) : Nat) : Int) := by
    rw [show ((10 * valN (w.take i) : Nat) : Int) + ((b.toNat - 48 : Nat) : Int) = ((10 * valN (w.take i) + (b.toNat - 48) : Nat) : Int) by omega]
    exact wrap_u64 (by omega) (by omega)
   refine qR ?_;iterate 2 refine rC ?_
   refine rQ (len_s tab_ok rfl rfl) ?_;refine rC ?_;refine nS ?_;refine wT ?_;refine kS ?_;refine wc_seq ?_;refine wc_block ?_;refine sR ?_;iterate 2 refine rC ?_
   refine rQ (index_s (l := w) (m := i) tab_ok rfl rfl rfl hb) ?_;refine rQ (conv_int (m := (b.toNat : Int)) tab_ok rfl rfl rfl hw35) ?_;refine rQ (sub_int (m := ((b.toNat - 48 : Nat) : Int)) tab_ok rfl rfl hd) ?_
   refine rC ?_;refine nQ ?_;refine sR ?_;iterate 2 refine rC ?_
   refine rQ (index_s (l := w) (m := i) tab_ok rfl rfl rfl hb) ?_;iterate 2 refine rC ?_
   refine rO ?_;refine rC ?_;refine rO ?_;refine rC ?_;refine rO ?_;refine rQ (index_s (l := w) (m := i) tab_ok rfl rfl rfl hb) ?_;refine rO ?_;refine rC ?_;refine rQ iF ?_
   refine rC ?_;refine rO ?_;refine rC ?_;refine rO ?_;refine rC ?_;refine rO ?_;refine rQ (sub_int (m := ((18446744073709551615 - (b.toNat - 48) : Nat) : Int)) tab_ok rfl rfl hw50) ?_
   refine rO ?_;refine rQ (quo_nat (a := 18446744073709551615 - (b.toNat - 48)) (b := 10) tab_ok rfl rfl rfl (by decide) hw51) ?_;refine rO ?_;refine rC ?_;refine rQ iF ?_
   refine nS ?_;refine wF ?_;refine kS ?_;refine wc_region ?_;refine rC ?_;refine rQ (mul_int (m := ((10 * valN (w.take i) : Nat) : Int)) tab_ok rfl rfl hw55) ?_;refine rC ?_
   refine rQ (add_int (m := ((10 * valN (w.take i) + (b.toNat - 48) : Nat) : Int)) tab_ok rfl rfl hw57) ?_;refine rC ?_;refine reg_nil ?_;refine blk_n ?_;refine seq_n ?_
   refine wc_region ?_;refine rC ?_;refine rQ iD ?_;refine rC ?_;refine reg_nil ?_
   exact loop_n (i + 1) [] ⟨hlt, fun y hy => by
    rw [htk] at hy
    rcases List.mem_append.1 hy with h | h
    ·exact hdg y h
    ·obtain rfl := List.mem_singleton.1 h
     omega, by rw [hv]; omega⟩ (by omega) (.of rfl rfl rfl rfl rfl ⟨⟨_, rfl, .refl _⟩, rfl, ⟨_, rfl, AVLe.of_eq (by rw [hv]; rfl)⟩, rfl, ⟨_, rfl, .refl _⟩, rfl, ⟨_, rfl, .refl _⟩, rfl, trivial⟩ trivial)
  ·have he : i = w.length := by omega
   subst he
   have d4 : decide ((w.length : Int) < (w.length : Int)) = false := dF (by omega)
   rw [List.take_length] at hdg hvl ⊢
   have hok : NumOk w := ⟨h0, by omega, h2, hdg, hvl⟩
   rw [hx1 hok, numS_yes hB hok]
   by_cases h64 : B = 64
   ·subst h64
    rw [if_pos (by omega)]
    refine qR ?_;iterate 2 refine rC ?_
    refine rQ (len_s tab_ok rfl rfl) ?_;refine rC ?_;refine nS ?_;refine wF ?_;refine wc_exit ?_;refine seq_x ?_;refine loop_x ?_;refine blk_x ?_;refine seq_n ?_;refine wc_seq ?_
    refine wc_draw (by kernel_rfl) ?_;refine dC [6] [] ?_;refine dC [1] [] ?_;refine dC [59] [] ?_;refine dC [60] [] ?_;refine dreg_offq [61, 6] rfl rfl rfl rfl ?_;refine dreg_offq [61, 1] rfl rfl rfl rfl ?_
    refine dreg_offq [61, 63] rfl rfl rfl rfl ?_;refine dreg_offq [61, 62, 64] rfl rfl rfl rfl ?_;refine dQ [61, 65] [] iU ?_;refine dC [58] [] ?_;refine dC [66] [] ?_
    refine dreg_end (by kernel_rfl) ?_;refine seq_n ?_;refine wc_ret ?_
    exact ⟨trivial, [], lf⟩
   ·have d5 : decide ((B : Int) = 64) = false := dF (by omega)
    have hpw : 2 ^ B ≤ 2 ^ 63 := Nat.pow_le_pow_right (by decide) (by omega)
    have hshl : IntKind.u64.wrap ((1 * 2 ^ B : Nat) : Int) = ((2 ^ B : Nat) : Int) := by
     rw [Nat.one_mul]
     generalize 2 ^ B = q at hpw
     exact wrap_u64 (by omega) (by omega)
    by_cases h6 : valN w < 2 ^ B
    ·have d6 : decide ((valN w : Int) < ((2 ^ B : Nat) : Int)) = true := dT (Int.ofNat_lt.2 h6)
     rw [if_pos h6]
     refine qR ?_;iterate 2 refine rC ?_
     refine rQ (len_s tab_ok rfl rfl) ?_;refine rC ?_;refine nS ?_;refine wF ?_;refine wc_exit ?_;refine seq_x ?_;refine loop_x ?_;refine blk_x ?_;refine seq_n ?_;refine wc_seq ?_
     refine wc_draw (by kernel_rfl) ?_;refine dC [6] [] ?_;refine dC [1] [] ?_;refine dC [59] [] ?_;refine dC [60] [] ?_;refine dreg_onq [61, 6] [] rfl rfl (by assumption) rfl (step_C tab_ok (fun K hk => hk)) ?_
     refine dreg_onq [61, 1] [] rfl rfl (by assumption) rfl (step_C tab_ok (fun K hk => hk)) ?_;refine dreg_onq [61, 63] [] rfl rfl (by assumption) rfl (shl_nat (a := 1) (s := B) rfl rfl hB hshl) ?_
     refine dreg_onq [61, 62, 64] [] rfl rfl (by assumption) rfl (step_C tab_ok (fun K hk => hk)) ?_;refine dQ [61, 65] [] iF ?_;refine dC [58] [] ?_;refine dC [66] [] ?_
     refine dreg_end (by kernel_rfl) ?_;refine seq_n ?_;refine wc_ret ?_
     exact ⟨trivial, [], .of rfl rfl rfl rfl rfl ⟨⟨_, rfl, AVLe.of_eq (by rw [d6]; rfl)⟩, rfl, trivial⟩ trivial⟩
    ·have d6 : decide ((valN w : Int) < ((2 ^ B : Nat) : Int)) = false := dF (fun e => h6 (Int.ofNat_lt.1 e))
     rw [if_neg h6]
     refine qR ?_;iterate 2 refine rC ?_
     refine rQ (len_s tab_ok rfl rfl) ?_;refine rC ?_;refine nS ?_;refine wF ?_;refine wc_exit ?_;refine seq_x ?_;refine loop_x ?_;refine blk_x ?_;refine seq_n ?_;refine wc_seq ?_
     refine wc_draw (by kernel_rfl) ?_;refine dC [6] [] ?_;refine dC [1] [] ?_;refine dC [59] [] ?_;refine dC [60] [] ?_;refine dreg_onq [61, 6] [] rfl rfl (by assumption) rfl (step_C tab_ok (fun K hk => hk)) ?_
     refine dreg_onq [61, 1] [] rfl rfl (by assumption) rfl (step_C tab_ok (fun K hk => hk)) ?_;refine dreg_onq [61, 63] [] rfl rfl (by assumption) rfl (shl_nat (a := 1) (s := B) rfl rfl hB hshl) ?_
     refine dreg_onq [61, 62, 64] [] rfl rfl (by assumption) rfl (step_C tab_ok (fun K hk => hk)) ?_;refine dQ [61, 65] [] iF ?_;refine dC [58] [] ?_;refine dC [66] [] ?_
     refine dreg_end (by kernel_rfl) ?_;refine seq_n ?_;refine wc_ret ?_
     exact ⟨trivial, [], .of rfl rfl rfl rfl rfl ⟨⟨_, rfl, AVLe.of_eq (by rw [d6]; rfl)⟩, rfl, trivial⟩ trivial⟩
 ·have d2 : decide (1 < (w.length : Int)) = false := dF (by omega)
  refine sR ?_;iterate 2 refine rC ?_
  refine nQ ?_;refine sR ?_;refine rC ?_;refine rQ (eql_s (a := w) (b := []) tab_ok rfl rfl rfl) ?_;refine rC ?_;refine rO ?_;refine rC ?_;refine rO ?_;refine rQ (len_s tab_ok rfl rfl) ?_
  refine rO ?_;refine rC ?_;refine rQ iF ?_;refine rC ?_;refine rO ?_;refine rC ?_;refine rO ?_;refine rQ (len_s tab_ok rfl rfl) ?_;refine rO ?_;refine rC ?_;refine rO ?_
  refine rC ?_;iterate 3 refine rS ?_
  refine rO ?_;iterate 2 refine rQ iF ?_
  refine nS ?_;refine wG ?_;refine kS ?_;refine sR ?_;refine rC ?_;refine nQ ?_;refine sR ?_;refine rC ?_;refine nS ?_;refine wc_block ?_
  refine wc_inv (fun i : Nat => ⟨[(7, .int .i64 i), (6, .int .u64 (valN (w.take i))), (0, .d (strD w)), (1, .int .i64 B)], [], 64, Tryz.f72.ntmps, 64⟩) (fun i => i ≤ w.length ∧ Digs (w.take i) ∧ valN (w.take i) < 18446744073709551616) (fun i => w.length - i) 0 [] ⟨Nat.zero_le _, (show Digs (w.take 0) from fun b hb => by rw [List.take_zero] at hb; exact absurd hb (by simp)), by rw [List.take_zero]; decide⟩
   (.of rfl rfl rfl rfl rfl ⟨⟨_, rfl, .refl _⟩, rfl, ⟨_, rfl, .refl _⟩, rfl, ⟨_, rfl, .refl _⟩, rfl, ⟨_, rfl, .refl _⟩, rfl, trivial⟩ trivial) ?_
  rintro i ⟨hi, hdg, hvl⟩
  refine wc_of ?_
  by_cases hlt : i < w.length
  ·have d4 : decide ((i : Int) < (w.length : Int)) = true := dT (by omega)
   obtain ⟨b, hb⟩ : ∃ b, w[i]? = some b := ⟨_, List.getElem?_eq_getElem hlt⟩
   have hb8 : b.toNat < 256 := b.toNat_lt
   have hbm : b ∈ w := List.mem_of_getElem? hb
   have htk : w.take (i + 1) = w.take i ++ [b] := by rw [List.take_add_one, hb]; rfl
   have hw35 : IntKind.u64.wrap (b.toNat : Int) = (b.toNat : Int) := wrap_u64 (by omega) (by omega)
   obtain ⟨d, hd, hdn⟩ : ∃ d : Int, IntKind.u64.wrap ((b.toNat : Int) - 48) = d ∧ (48 ≤ b.toNat → d = ((b.toNat - 48 : Nat) : Int)) := ⟨_, rfl, fun h => by rw [show (b.toNat : Int) - 48 = ((b.toNat - 48 : Nat) : Int) by omega]; exact wrap_u64 (by omega) (by omega)⟩
   by_cases k1 : b.toNat < 48
   ·have e1 : decide ((b.toNat : Int) < 48) = true := dT (by omega)
    have hn : ¬ NumOk w := fun h => by have := h.2.2.2.1 b hbm; omega
    rw [hx0 hn, numS_not hB hn]
    refine qR ?_;iterate 2 refine rC ?_
    refine rQ (len_s tab_ok rfl rfl) ?_;refine rC ?_;refine nS ?_;refine wT ?_;refine kS ?_;refine wc_seq ?_;refine wc_block ?_;refine sR ?_;iterate 2 refine rC ?_
    refine rQ (index_s (l := w) (m := i) tab_ok rfl rfl rfl hb) ?_;refine rQ (conv_int (m := (b.toNat : Int)) tab_ok rfl rfl rfl hw35) ?_;refine rQ (sub_int (m := d) tab_ok rfl rfl hd) ?_
    refine rC ?_;refine nQ ?_;refine sR ?_;iterate 2 refine rC ?_
    refine rQ (index_s (l := w) (m := i) tab_ok rfl rfl rfl hb) ?_;iterate 2 refine rC ?_
    iterate 4 refine rS ?_
    refine rQ iT ?_;refine rC ?_;iterate 5 refine rT ?_
    refine rQ iU ?_;refine nS ?_;refine wV ?_;refine sR ?_;iterate 2 refine rC ?_
    refine nS ?_;refine wc_ret ?_;refine seq_r ?_;refine blk_r ?_;refine seq_r ?_;refine loop_r ?_;refine blk_r ?_;refine seq_r ?_
    exact ⟨trivial, [], lf⟩
   have e1 : decide ((b.toNat : Int) < 48) = false := dF (by omega)
   obtain rfl := hdn (by omega)
   by_cases k2 : 57 < b.toNat
   ·have e2 : decide (57 < (b.toNat : Int)) = true := dT (by omega)
    have hn : ¬ NumOk w := fun h => by have := h.2.2.2.1 b hbm; omega
    rw [hx0 hn, numS_not hB hn]
    refine qR ?_;iterate 2 refine rC ?_
    refine rQ (len_s tab_ok rfl rfl) ?_;refine rC ?_;refine nS ?_;refine wT ?_;refine kS ?_;refine wc_seq ?_;refine wc_block ?_;refine sR ?_;iterate 2 refine rC ?_
    refine rQ (index_s (l := w) (m := i) tab_ok rfl rfl rfl hb) ?_;refine rQ (conv_int (m := (b.toNat : Int)) tab_ok rfl rfl rfl hw35) ?_;refine rQ (sub_int (m := ((b.toNat - 48 : Nat) : Int)) tab_ok rfl rfl hd) ?_
    refine rC ?_;refine nQ ?_;refine sR ?_;iterate 2 refine rC ?_
    refine rQ (index_s (l := w) (m := i) tab_ok rfl rfl rfl hb) ?_;iterate 2 refine rC ?_
    refine rO ?_;refine rC ?_;refine rO ?_;refine rC ?_;refine rO ?_;refine rQ (index_s (l := w) (m := i) tab_ok rfl rfl rfl hb) ?_;refine rO ?_;refine rC ?_;refine rQ iF ?_
    refine rC ?_;iterate 5 refine rS ?_
    refine rQ iT ?_;refine nS ?_;refine wV ?_;refine sR ?_;iterate 2 refine rC ?_
    refine nS ?_;refine wc_ret ?_;refine seq_r ?_;refine blk_r ?_;refine seq_r ?_;refine loop_r ?_;refine blk_r ?_;refine seq_r ?_
    exact ⟨trivial, [], lf⟩
   have e2 : decide (57 < (b.toNat : Int)) = false := dF (by omega)
   have hw50 : IntKind.u64.wrap (18446744073709551615 - ((b.toNat - 48 : Nat) : Int)) = ((18446744073709551615 - (b.toNat - 48) : Nat) : Int) := by
    rw [show (18446744073709551615 : Int) - ((b.toNat - 48 : Nat) : Int) = ((18446744073709551615 - (b.toNat - 48) : Nat) : Int) by omega]
    exact wrap_u64 (by omega) (by omega)
   have hw51 : IntKind.u64.wrap (((18446744073709551615 - (b.toNat - 48)) / 10 : Nat) : Int) = (((18446744073709551615 - (b.toNat - 48)) / 10 : Nat) : Int) := wrap_u64 (by omega) (by omega)
   have hv := val_app (w.take i) b
   rw [← htk] at hv
   by_cases k3 : (18446744073709551615 - (b.toNat - 48)) / 10 < valN (w.take i)
   ·have e3 : decide ((((18446744073709551615 - (b.toNat - 48)) / 10 : Nat) : Int) < (valN (w.take i) : Int)) = true := dT (by omega)
    have hn : ¬ NumOk w := fun h => by
     have h4 := h.2.2.2.2
     have := val_take w (i + 1)
     omega
    rw [hx0 hn, numS_not hB hn]
    refine qR ?_;iterate 2 refine rC ?_
    refine rQ (len_s tab_ok rfl rfl) ?_;refine rC ?_;refine nS ?_;refine wT ?_;refine kS ?_;refine wc_seq ?_;refine wc_block ?_;refine sR ?_;iterate 2 refine rC ?_
    refine rQ (index_s (l := w) (m := i) tab_ok rfl rfl rfl hb) ?_;refine rQ (conv_int (m := (b.toNat : Int)) tab_ok rfl rfl rfl hw35) ?_;refine rQ (sub_int (m := ((b.toNat - 48 : Nat) : Int)) tab_ok rfl rfl hd) ?_
    refine rC ?_;refine nQ ?_;refine sR ?_;iterate 2 refine rC ?_
    refine rQ (index_s (l := w) (m := i) tab_ok rfl rfl rfl hb) ?_;iterate 2 refine rC ?_
    refine rO ?_;refine rC ?_;refine rO ?_;refine rC ?_;refine rO ?_;refine rQ (index_s (l := w) (m := i) tab_ok rfl rfl rfl hb) ?_;refine rO ?_;refine rC ?_;refine rQ iF ?_
    refine rC ?_;refine rO ?_;refine rC ?_;refine rO ?_;refine rC ?_;refine rO ?_;refine rQ (sub_int (m := ((18446744073709551615 - (b.toNat - 48) : Nat) : Int)) tab_ok rfl rfl hw50) ?_
    refine rO ?_;refine rQ (quo_nat (a := 18446744073709551615 - (b.toNat - 48)) (b := 10) tab_ok rfl rfl rfl (by decide) hw51) ?_;refine rO ?_;refine rC ?_;refine rQ iF ?_
    refine nS ?_;refine wT ?_;refine sR ?_;iterate 2 refine rC ?_
    refine nS ?_;refine wc_ret ?_;refine seq_r ?_;refine blk_r ?_;refine seq_r ?_;refine loop_r ?_;refine blk_r ?_;refine seq_r ?_
    exact ⟨trivial, [], lf⟩
   have e3 : decide ((((18446744073709551615 - (b.toNat - 48)) / 10 : Nat) : Int) < (valN (w.take i) : Int)) = false := dF (by omega)
   have hw55 : IntKind.u64.wrap (10 * (valN (w.take i) : Int)) = ((10 * valN (w.take i) : Nat) : Int) := by
    rw [show 10 * (valN (w.take i) : Int) = ((10 * valN (w.take i) : Nat) : Int) by omega]
    exact wrap_u64 (by omega) (by omega)
   have hw57 : IntKind.u64.wrap (((10 * valN (w.take i) : Nat) : Int) + ((b.toNat - 48 : Nat) : Int)) = ((10 * valN (w.take i) + (b.toNat - 48) : Nat) : Int) := by
    rw [show ((10 * valN (w.take i) : Nat) : Int) + ((b.toNat - 48 : Nat) : Int) = ((10 * valN (w.take i) + (b.toNat - 48) : Nat) : Int) by omega]
    exact wrap_u64 (by omega) (by omega)
   refine qR ?_;iterate 2 refine rC ?_
   refine rQ (len_s tab_ok rfl rfl) ?_;refine rC ?_;refine nS ?_;refine wT ?_;refine kS ?_;refine wc_seq ?_;refine wc_block ?_;refine sR ?_;iterate 2 refine rC ?_
   refine rQ (index_s (l := w) (m := i) tab_ok rfl rfl rfl hb) ?_;refine rQ (conv_int (m := (b.toNat : Int)) tab_ok rfl rfl rfl hw35) ?_;refine rQ (sub_int (m := ((b.toNat - 48 : Nat) : Int)) tab_ok rfl rfl hd) ?_
   refine rC ?_;refine nQ ?_;refine sR ?_;iterate 2 refine rC ?_
   refine rQ (index_s (l := w) (m := i) tab_ok rfl rfl rfl hb) ?_;iterate 2 refine rC ?_
   refine rO ?_;refine rC ?_;refine rO ?_;refine rC ?_;refine rO ?_;refine rQ (index_s (l := w) (m := i) tab_ok rfl rfl rfl hb) ?_;refine rO ?_;refine rC ?_;refine rQ iF ?_
   refine rC ?_;refine rO ?_;refine rC ?_;refine rO ?_;refine rC ?_;refine rO ?_;refine rQ (sub_int (m := ((18446744073709551615 - (b.toNat - 48) : Nat) : Int)) tab_ok rfl rfl hw50) ?_
   refine rO ?_;refine rQ (quo_nat (a := 18446744073709551615 - (b.toNat - 48)) (b := 10) tab_ok rfl rfl rfl (by decide) hw51) ?_;refine rO ?_;refine rC ?_;refine rQ iF ?_
   refine nS ?_;refine wF ?_;refine kS ?_;refine wc_region ?_;refine rC ?_;refine rQ (mul_int (m := ((10 * valN (w.take i) : Nat) : Int)) tab_ok rfl rfl hw55) ?_;refine rC ?_
   refine rQ (add_int (m := ((10 * valN (w.take i) + (b.toNat - 48) : Nat) : Int)) tab_ok rfl rfl hw57) ?_;refine rC ?_;refine reg_nil ?_;refine blk_n ?_;refine seq_n ?_
   refine wc_region ?_;refine rC ?_;refine rQ iD ?_;refine rC ?_;refine reg_nil ?_
   exact loop_n (i + 1) [] ⟨hlt, fun y hy => by
    rw [htk] at hy
    rcases List.mem_append.1 hy with h | h
    ·exact hdg y h
    ·obtain rfl := List.mem_singleton.1 h
     omega, by rw [hv]; omega⟩ (by omega) (.of rfl rfl rfl rfl rfl ⟨⟨_, rfl, .refl _⟩, rfl, ⟨_, rfl, AVLe.of_eq (by rw [hv]; rfl)⟩, rfl, ⟨_, rfl, .refl _⟩, rfl, ⟨_, rfl, .refl _⟩, rfl, trivial⟩ trivial)
  ·have he : i = w.length := by omega
   subst he
   have d4 : decide ((w.length : Int) < (w.length : Int)) = false := dF (by omega)
   rw [List.take_length] at hdg hvl ⊢
   have hok : NumOk w := ⟨h0, by omega, h2, hdg, hvl⟩
   rw [hx1 hok, numS_yes hB hok]
   by_cases h64 : B = 64
   ·subst h64
    rw [if_pos (by omega)]
    refine qR ?_;iterate 2 refine rC ?_
    refine rQ (len_s tab_ok rfl rfl) ?_;refine rC ?_;refine nS ?_;refine wF ?_;refine wc_exit ?_;refine seq_x ?_;refine loop_x ?_;refine blk_x ?_;refine seq_n ?_;refine wc_seq ?_
    refine wc_draw (by kernel_rfl) ?_;refine dC [6] [] ?_;refine dC [1] [] ?_;refine dC [59] [] ?_;refine dC [60] [] ?_;refine dreg_offq [61, 6] rfl rfl rfl rfl ?_;refine dreg_offq [61, 1] rfl rfl rfl rfl ?_
    refine dreg_offq [61, 63] rfl rfl rfl rfl ?_;refine dreg_offq [61, 62, 64] rfl rfl rfl rfl ?_;refine dQ [61, 65] [] iU ?_;refine dC [58] [] ?_;refine dC [66] [] ?_
    refine dreg_end (by kernel_rfl) ?_;refine seq_n ?_;refine wc_ret ?_
    exact ⟨trivial, [], lf⟩
   ·have d5 : decide ((B : Int) = 64) = false := dF (by omega)
    have hpw : 2 ^ B ≤ 2 ^ 63 := Nat.pow_le_pow_right (by decide) (by omega)
    have hshl : IntKind.u64.wrap ((1 * 2 ^ B : Nat) : Int) = ((2 ^ B : Nat) : Int) := by
     rw [Nat.one_mul]
     generalize 2 ^ B = q at hpw
     exact wrap_u64 (by omega) (by omega)
    by_cases h6 : valN w < 2 ^ B
    ·have d6 : decide ((valN w : Int) < ((2 ^ B : Nat) : Int)) = true := dT (Int.ofNat_lt.2 h6)
     rw [if_pos h6]
     refine qR ?_;iterate 2 refine rC ?_
     refine rQ (len_s tab_ok rfl rfl) ?_;refine rC ?_;refine nS ?_;refine wF ?_;refine wc_exit ?_;refine seq_x ?_;refine loop_x ?_;refine blk_x ?_;refine seq_n ?_;refine wc_seq ?_
     refine wc_draw (by kernel_rfl) ?_;refine dC [6] [] ?_;refine dC [1] [] ?_;refine dC [59] [] ?_;refine dC [60] [] ?_;refine dreg_onq [61, 6] [] rfl rfl (by assumption) rfl (step_C tab_ok (fun K hk => hk)) ?_
     refine dreg_onq [61, 1] [] rfl rfl (by assumption) rfl (step_C tab_ok (fun K hk => hk)) ?_;refine dreg_onq [61, 63] [] rfl rfl (by assumption) rfl (shl_nat (a := 1) (s := B) rfl rfl hB hshl) ?_
     refine dreg_onq [61, 62, 64] [] rfl rfl (by assumption) rfl (step_C tab_ok (fun K hk => hk)) ?_;refine dQ [61, 65] [] iF ?_;refine dC [58] [] ?_;refine dC [66] [] ?_
     refine dreg_end (by kernel_rfl) ?_;refine seq_n ?_;refine wc_ret ?_
     exact ⟨trivial, [], .of rfl rfl rfl rfl rfl ⟨⟨_, rfl, AVLe.of_eq (by rw [d6]; rfl)⟩, rfl, trivial⟩ trivial⟩
    ·have d6 : decide ((valN w : Int) < ((2 ^ B : Nat) : Int)) = false := dF (fun e => h6 (Int.ofNat_lt.1 e))
     rw [if_neg h6]
     refine qR ?_;iterate 2 refine rC ?_
     refine rQ (len_s tab_ok rfl rfl) ?_;refine rC ?_;refine nS ?_;refine wF ?_;refine wc_exit ?_;refine seq_x ?_;refine loop_x ?_;refine blk_x ?_;refine seq_n ?_;refine wc_seq ?_
     refine wc_draw (by kernel_rfl) ?_;refine dC [6] [] ?_;refine dC [1] [] ?_;refine dC [59] [] ?_;refine dC [60] [] ?_;refine dreg_onq [61, 6] [] rfl rfl (by assumption) rfl (step_C tab_ok (fun K hk => hk)) ?_
     refine dreg_onq [61, 1] [] rfl rfl (by assumption) rfl (step_C tab_ok (fun K hk => hk)) ?_;refine dreg_onq [61, 63] [] rfl rfl (by assumption) rfl (shl_nat (a := 1) (s := B) rfl rfl hB hshl) ?_
     refine dreg_onq [61, 62, 64] [] rfl rfl (by assumption) rfl (step_C tab_ok (fun K hk => hk)) ?_;refine dQ [61, 65] [] iF ?_;refine dC [58] [] ?_;refine dC [66] [] ?_
     refine dreg_end (by kernel_rfl) ?_;refine seq_n ?_;refine wc_ret ?_
     exact ⟨trivial, [], .of rfl rfl rfl rfl rfl ⟨⟨_, rfl, AVLe.of_eq (by rw [d6]; rfl)⟩, rfl, trivial⟩ trivial⟩
theorem rnum34_is (w : List UInt8) (B : Nat) (hB : B ≤ 64) : ∃ x : Int, FnIs Tryz.prog 72 [.d (strD w), .int .i64 B] [] (.tup (.acons (.int .u64 x) (.acons (.bool (numS B w).isSome) .anil))) [] ∧ ∀ u, numS B w = some u → x = (u : Int) := by
 by_cases h : NumOk w
 ·refine ⟨valN w, rnum34_go w B _ hB (fun h2 => absurd h h2) (fun _ => rfl), fun u hu => ?_⟩
  rw [numS_yes hB h] at hu
  split at hu
  ·cases hu; rfl
  ·cases hu
 ·refine ⟨0, rnum34_go w B _ hB (fun _ => rfl) (fun h2 => absurd h2 h), fun u hu => ?_⟩
  rw [numS_not hB h] at hu
  cases hu
theorem dig_all : ∀ n, n < 256 → (if 48 ≤ n ∧ n ≤ 57 then (Lib.indexByte hexD n.toUInt8 = ((n - 48 : Nat) : Int)) else if 97 ≤ n ∧ n ≤ 102 then Lib.indexByte hexD n.toUInt8 = ((n - 87 : Nat) : Int) else Lib.indexByte hexD n.toUInt8 = -1) := by decide +kernel
theorem dig_num {c : UInt8} (h1 : 48 ≤ c.toNat) (h2 : c.toNat ≤ 57) : Lib.indexByte hexD c = ((c.toNat - 48 : Nat) : Int) := by
 have := dig_all c.toNat c.toNat_lt
 rw [if_pos ⟨h1, h2⟩] at this
 simpa using this
theorem dig_let {c : UInt8} (h1 : 97 ≤ c.toNat) (h2 : c.toNat ≤ 102) : Lib.indexByte hexD c = ((c.toNat - 87 : Nat) : Int) := by
 have := dig_all c.toNat c.toNat_lt
 rw [if_neg (by omega), if_pos ⟨h1, h2⟩] at this
 simpa using this
theorem dig_bad {c : UInt8} (h1 : ¬ (48 ≤ c.toNat ∧ c.toNat ≤ 57)) (h2 : ¬ (97 ≤ c.toNat ∧ c.toNat ≤ 102)) : Lib.indexByte hexD c < 0 := by
 have := dig_all c.toNat c.toNat_lt
 rw [if_neg h1, if_neg h2] at this
 have e : Lib.indexByte hexD c = -1 := by simpa using this
 omega
def packV : List UInt8 → List Int
 | [] => []
 | [a] => [((16 * nibV a : Nat) : Int)]
 | a :: b :: l => ((16 * nibV a + nibV b : Nat) : Int) :: packV l
theorem pack_pairs : ∀ l : List UInt8, l.length % 2 = 0 → packV l = pairsV l
 | [], _ => rfl
 | [_], h => by simp at h
 | a :: b :: l, h => by
  rw [packV, pairsV, pack_pairs l (by simp only [List.length_cons] at h; omega), Nat.mul_comm 16]
theorem pack_len : ∀ l : List UInt8, (packV l).length = (l.length + 1) / 2
 | [] => rfl
 | [_] => by simp [packV]
 | _ :: _ :: l => by rw [packV, List.length_cons, pack_len l]; simp only [List.length_cons]; omega
theorem pack_even : ∀ (l : List UInt8) (a : UInt8), l.length % 2 = 0 → packV (l ++ [a]) = packV l ++ [((16 * nibV a : Nat) : Int)]
 | [], _, _ => rfl
 | [_], _, h => by simp at h
 | x :: y :: l, a, h => by
  have := pack_even l a (by simp only [List.length_cons] at h; omega)
  simp only [List.cons_append, packV, this]
theorem pack_odd : ∀ (l : List UInt8) (b : UInt8), l.length % 2 = 1 → ∃ v : Nat, v < 256 - nibV b ∧ (packV l)[l.length / 2]? = some (v : Int) ∧ packV (l ++ [b]) = (packV l).set (l.length / 2) ((v + nibV b : Nat) : Int)
 | [], _, h => by simp at h
 | [a], b, _ => ⟨16 * nibV a, by have := nibV_lt a; have := nibV_lt b; omega, by simp [packV], by simp [packV]⟩
 | x :: y :: l, b, h => by
  obtain ⟨v, h1, h2, h3⟩ := pack_odd l b (by simp only [List.length_cons] at h; omega)
  have e : (x :: y :: l).length / 2 = l.length / 2 + 1 := by simp only [List.length_cons]; omega
  refine ⟨v, h1, ?_, ?_⟩
  ·rw [e, packV, List.getElem?_cons_succ]; exact h2
  ·rw [e]; simp only [List.cons_append, packV, h3, List.set_cons_succ]
abbrev byR34 (o : Option (List UInt8)) : AV := .tup (.acons (.d (encB (o.getD []))) (.acons (.bool o.isSome) .anil))
theorem byR34_e : AVLe (.tup (.acons (.d (.sc nil_)) (.acons (.bool true) .anil))) (byR34 (some [])) := AVLe.tup1 (nil_arr _ _) rfl
theorem byR34_n : AVLe (.tup (.acons (.d (.sc nil_)) (.acons (.bool false) .anil))) (byR34 none) := AVLe.tup1 (nil_arr _ _) rfl
theorem rbytes34_is (s : List UInt8) (hl : s.length ≤ 1048575) : FnIs Tryz.prog 73 [.d (strD s)] [] (byR34 (unhexP s)) [] := by
 refine fnIs_of tab_ok Tryz.func73 rfl rfl rfl ?_
 by_cases h0 : s = [45]
 ·have d0 : decide (s = [45]) = true := dT h0
  rw [show unhexP s = some [] from if_pos h0]
  refine sR ?_;iterate 2 refine rC ?_
  refine nQ ?_;refine sR ?_;refine rC ?_;refine rQ (eql_s (a := s) (b := [45]) tab_ok rfl rfl rfl) ?_;refine nS ?_;refine wT ?_;refine sR ?_;iterate 2 refine rC ?_
  refine nS ?_;refine wc_ret ?_;refine seq_r ?_
  exact ⟨trivial, [], .of rfl rfl rfl rfl rfl ⟨⟨_, rfl, byR34_e⟩, rfl, trivial⟩ trivial⟩
 have d0 : decide (s = [45]) = false := dF h0
 by_cases h1 : s = []
 ·have d1 : decide (s = []) = true := dT h1
  rw [show unhexP s = none by rw [unhexP, if_neg h0, if_pos h1]]
  refine sR ?_;iterate 2 refine rC ?_
  refine nQ ?_;refine sR ?_;refine rC ?_;refine rQ (eql_s (a := s) (b := [45]) tab_ok rfl rfl rfl) ?_;refine nS ?_;refine wF ?_;refine kS ?_;refine qR ?_;refine rC ?_
  refine rQ (eql_s (a := s) (b := []) tab_ok rfl rfl rfl) ?_;refine rC ?_;iterate 4 refine rS ?_
  refine rQ iT ?_;refine nS ?_;refine wV ?_;refine sR ?_;iterate 2 refine rC ?_
  refine nS ?_;refine wc_ret ?_;refine seq_r ?_
  exact ⟨trivial, [], .of rfl rfl rfl rfl rfl ⟨⟨_, rfl, byR34_n⟩, rfl, trivial⟩ trivial⟩
 have d1 : decide (s = []) = false := dF h1
 have hun : unhexP s = pairsO s := by rw [unhexP, if_neg h0, if_neg h1]
 by_cases h2 : s.length % 2 = 1
 ·have d2 : decide (((s.length % 2 : Nat) : Int) = 1) = true := dT (by omega)
  rw [hun, pairs_odd s h2]
  refine sR ?_;iterate 2 refine rC ?_
  refine nQ ?_;refine sR ?_;refine rC ?_;refine rQ (eql_s (a := s) (b := [45]) tab_ok rfl rfl rfl) ?_;refine nS ?_;refine wF ?_;refine kS ?_;refine qR ?_;refine rC ?_
  refine rQ (eql_s (a := s) (b := []) tab_ok rfl rfl rfl) ?_;refine rC ?_;refine rO ?_;refine rC ?_;refine rO ?_;refine rQ (len_s tab_ok rfl rfl) ?_;refine rO ?_;refine rQ (rem_nat (a := s.length) (b := 2) tab_ok rfl rfl rfl (by decide)) ?_
  refine rO ?_;refine rC ?_;refine rQ iF ?_;refine nS ?_;refine wT ?_;refine sR ?_;iterate 2 refine rC ?_
  refine nS ?_;refine wc_ret ?_;refine seq_r ?_
  exact ⟨trivial, [], .of rfl rfl rfl rfl rfl ⟨⟨_, rfl, byR34_n⟩, rfl, trivial⟩ trivial⟩
 have d2 : decide (((s.length % 2 : Nat) : Int) = 1) = false := dF (by omega)
 have hp : 0 < s.length := List.length_pos_iff.2 h1
 refine sR ?_;iterate 2 refine rC ?_
 refine nQ ?_;refine sR ?_;refine rC ?_;refine rQ (eql_s (a := s) (b := [45]) tab_ok rfl rfl rfl) ?_;refine nS ?_;refine wF ?_;refine kS ?_;refine qR ?_;refine rC ?_
 refine rQ (eql_s (a := s) (b := []) tab_ok rfl rfl rfl) ?_;refine rC ?_;refine rO ?_;refine rC ?_;refine rO ?_;refine rQ (len_s tab_ok rfl rfl) ?_;refine rO ?_;refine rQ (rem_nat (a := s.length) (b := 2) tab_ok rfl rfl rfl (by decide)) ?_
 refine rO ?_;refine rC ?_;refine rQ iF ?_;refine nS ?_;refine wF ?_;refine kS ?_;refine sR ?_;refine rC ?_;refine nQ ?_;refine sR ?_;refine rC ?_;refine nS ?_;refine wc_block ?_
 refine wc_inv (fun i : Nat => ⟨[(5, .int .i64 i), (4, .own 65 0 (packV (s.take i)).length 1 none), (0, .d (strD s))], [(65, some (.ds 5 1 false encU8 (packV (s.take i))))], 72, Tryz.f73.ntmps, 64⟩) (fun i => i ≤ s.length ∧ ∀ c ∈ s.take i, 0 ≤ Lib.indexByte hexD c) (fun i => s.length - i) 0 [(65, none)] ⟨Nat.zero_le _, fun c hc => by rw [List.take_zero] at hc; exact absurd hc (by simp)⟩
  (.of rfl rfl rfl rfl rfl ⟨⟨_, rfl, .refl _⟩, rfl, ⟨_, rfl, .refl _⟩, rfl, ⟨_, rfl, .refl _⟩, rfl, trivial⟩ ⟨⟨rfl, rfl, rfl⟩, trivial⟩) ?_
 rintro i ⟨hi, hall⟩
 refine wc_of ?_
 by_cases hlt : i < s.length
 ·have d3 : decide ((i : Int) < (s.length : Int)) = true := dT (by omega)
  obtain ⟨b, hb⟩ : ∃ b, s[i]? = some b := ⟨_, List.getElem?_eq_getElem hlt⟩
  have hb8 : b.toNat < 256 := b.toNat_lt
  have hbm : b ∈ s := List.mem_of_getElem? hb
  have htk : s.take (i + 1) = s.take i ++ [b] := by rw [List.take_add_one, hb]; rfl
  have htl : (s.take i).length = i := by rw [List.length_take]; omega
  have hnb := nibV_lt b
  have hw59 : IntKind.u8.wrap (16 * (nibV b : Int)) = ((16 * nibV b : Nat) : Int) := by rw [show 16 * (nibV b : Int) = ((16 * nibV b : Nat) : Int) by omega]; exact wrap_u8n (by omega)
  have hw64 : IntKind.i64.wrap ((i / 2 : Nat) : Int) = ((i / 2 : Nat) : Int) := wrap_i64 (by omega) (by omega)
  have hpl := pack_len (s.take i)
  rw [htl] at hpl
  by_cases k : (48 ≤ b.toNat ∧ b.toNat ≤ 57) ∨ (97 ≤ b.toNat ∧ b.toNat ≤ 102)
  ·have hgood : 0 ≤ Lib.indexByte hexD b := by
    rcases k with ⟨k1, k2⟩ | ⟨k1, k2⟩
    ·rw [dig_num k1 k2]; exact Int.natCast_nonneg _
    ·rw [dig_let k1 k2]; exact Int.natCast_nonneg _
   have hall' : ∀ c ∈ s.take (i + 1), 0 ≤ Lib.indexByte hexD c := by
    intro c hc
    rw [htk] at hc
    rcases List.mem_append.1 hc with h | h
    ·exact hall c h
    ·obtain rfl := List.mem_singleton.1 h
     exact hgood
   rcases k with kk | kk
   ·have k1 : 48 ≤ b.toNat ∧ b.toNat ≤ 57 := kk
    have hnv : nibV b = b.toNat - 48 := by rw [nibV, dig_num k1.1 k1.2]; exact Int.toNat_natCast _
    have e1 : decide (48 ≤ (b.toNat : Int)) = true := dT (by omega)
    have e2 : decide ((b.toNat : Int) ≤ 57) = true := dT (by omega)
    have hw37 : IntKind.u8.wrap ((b.toNat : Int) - 48) = (nibV b : Int) := by rw [show (b.toNat : Int) - 48 = ((b.toNat - 48 : Nat) : Int) by omega, hnv]; exact wrap_u8n (by omega)
    by_cases ke : i % 2 = 0
    ·have e5 : decide (((i % 2 : Nat) : Int) = 0) = true := dT (by omega)
     have hset := pack_even (s.take i) b (by omega)
     rw [← htk] at hset
     have hln : (packV (s.take i)).length + 1 = (packV (s.take (i + 1))).length := by rw [hset]; simp
     have hA : (packV (s.take i)).length + 1 ≤ 1048576 := by omega
     refine qR ?_;iterate 2 refine rC ?_
     refine rQ (len_s tab_ok rfl rfl) ?_;refine rC ?_;refine nS ?_;refine wT ?_;refine kS ?_;refine wc_seq ?_;refine wc_block ?_;refine sR ?_;refine rC ?_;refine nQ ?_
     refine wc_block ?_;refine sR ?_;iterate 2 refine rC ?_
     refine rQ (index_s (l := s) (m := i) tab_ok rfl rfl rfl hb) ?_;iterate 2 refine rC ?_
     refine rO ?_;refine rC ?_;refine rO ?_;refine rC ?_;refine rO ?_;refine rQ (index_s (l := s) (m := i) tab_ok rfl rfl rfl hb) ?_;refine rO ?_;refine rC ?_;refine rQ iT ?_
     refine rC ?_;refine nS ?_;refine wT ?_;refine wc_region ?_;iterate 2 refine rC ?_
     refine rQ (index_s (l := s) (m := i) tab_ok rfl rfl rfl hb) ?_;refine rQ (sub_int (m := (nibV b : Int)) tab_ok rfl rfl hw37) ?_;refine rC ?_;refine reg_nil ?_;refine blk_n ?_
     refine seq_n ?_;refine sR ?_;refine rC ?_;refine rQ (rem_nat (a := i) (b := 2) tab_ok rfl rfl rfl (by decide)) ?_;refine rC ?_;refine nS ?_;refine wT ?_;refine wc_region ?_
     iterate 2 refine rC ?_
     refine rQ (mul_int (m := ((16 * nibV b : Nat) : Int)) tab_ok rfl rfl hw59) ?_;refine reg_new (build_slice (s := 1) tab_ok rfl rfl rfl rfl rfl rfl rfl rfl) rfl ?_
     refine reg_new2 (append_one (xs := packV (s.take i)) (s := 1) (enc := encU8) tab_ok ((16 * nibV b : Nat) : Int) rfl rfl rfl rfl rfl rfl rfl rfl rfl hA rfl) rfl ?_
     refine rC ?_;refine reg_nil ?_;refine blk_n ?_;refine seq_n ?_;refine wc_region ?_;refine rC ?_;refine rQ iD ?_;refine rC ?_;refine reg_nil ?_
     exact loop_n (i + 1) [(65, some _)] ⟨hlt, hall'⟩ (by omega) (.of rfl rfl rfl rfl rfl ⟨⟨_, rfl, .refl _⟩, rfl, ⟨_, rfl, AVLe.of_eq (by rw [hln]; rfl)⟩, rfl, ⟨_, rfl, .refl _⟩, rfl, trivial⟩ ⟨⟨rfl, rfl, _, rfl, RowLe.of_eq (by rw [hset]; rfl)⟩, trivial⟩)
    ·have e5 : decide (((i % 2 : Nat) : Int) = 0) = false := dF (by omega)
     obtain ⟨v, hv1, hv0, hset⟩ := pack_odd (s.take i) b (by omega)
     rw [← htk, htl] at hset
     rw [htl] at hv0
     have hv : (packV (s.take i))[(((i / 2 : Nat) : Int)).toNat]? = some (v : Int) := by rw [Int.toNat_natCast]; exact hv0
     have hw71 : IntKind.u8.wrap ((v : Int) + (nibV b : Int)) = ((v + nibV b : Nat) : Int) := by rw [show (v : Int) + (nibV b : Int) = ((v + nibV b : Nat) : Int) by omega]; exact wrap_u8n (by omega)
     have hln : (packV (s.take i)).length = (packV (s.take (i + 1))).length := by rw [hset, List.length_set]
     refine qR ?_;iterate 2 refine rC ?_
     refine rQ (len_s tab_ok rfl rfl) ?_;refine rC ?_;refine nS ?_;refine wT ?_;refine kS ?_;refine wc_seq ?_;refine wc_block ?_;refine sR ?_;refine rC ?_;refine nQ ?_
     refine wc_block ?_;refine sR ?_;iterate 2 refine rC ?_
     refine rQ (index_s (l := s) (m := i) tab_ok rfl rfl rfl hb) ?_;iterate 2 refine rC ?_
     refine rO ?_;refine rC ?_;refine rO ?_;refine rC ?_;refine rO ?_;refine rQ (index_s (l := s) (m := i) tab_ok rfl rfl rfl hb) ?_;refine rO ?_;refine rC ?_;refine rQ iT ?_
     refine rC ?_;refine nS ?_;refine wT ?_;refine wc_region ?_;iterate 2 refine rC ?_
     refine rQ (index_s (l := s) (m := i) tab_ok rfl rfl rfl hb) ?_;refine rQ (sub_int (m := (nibV b : Int)) tab_ok rfl rfl hw37) ?_;refine rC ?_;refine reg_nil ?_;refine blk_n ?_
     refine seq_n ?_;refine sR ?_;refine rC ?_;refine rQ (rem_nat (a := i) (b := 2) tab_ok rfl rfl rfl (by decide)) ?_;refine rC ?_;refine nS ?_;refine wF ?_;refine wc_region ?_
     iterate 2 refine rC ?_
     refine rQ (quo_nat (a := i) (b := 2) tab_ok rfl rfl rfl (by decide) hw64) ?_;iterate 2 refine rC ?_
     refine rQ (quo_nat (a := i) (b := 2) tab_ok rfl rfl rfl (by decide) hw64) ?_;refine rQ (index_own tab_ok rfl rfl rfl rfl rfl (by omega) (by omega)) ?_;refine rQ (load_row (v := .int .u8 v) tab_ok rfl rfl ⟨rfl, (v : Int), hv, _, rfl, rfl⟩ rfl) ?_
     refine rC ?_;refine rQ (add_int (m := ((v + nibV b : Nat) : Int)) tab_ok rfl rfl hw71) ?_;refine rQ (index_own tab_ok rfl rfl rfl rfl rfl (by omega) (by omega)) ?_
     refine reg_store (store_row tab_ok rfl rfl rfl ⟨rfl, (v : Int), ((v + nibV b : Nat) : Int), hv, ⟨rfl, rfl, rfl⟩, rfl⟩ rfl) ?_;refine reg_nil ?_;refine blk_n ?_;refine seq_n ?_
     refine wc_region ?_;refine rC ?_;refine rQ iD ?_;refine rC ?_;refine reg_nil ?_
     exact loop_n (i + 1) [(65, some _)] ⟨hlt, hall'⟩ (by omega) (.of rfl rfl rfl rfl rfl ⟨⟨_, rfl, .refl _⟩, rfl, ⟨_, rfl, AVLe.of_eq (by rw [← hln]; rfl)⟩, rfl, ⟨_, rfl, .refl _⟩, rfl, trivial⟩ ⟨⟨rfl, rfl, _, rfl, RowLe.of_eq (by rw [hset]; rfl)⟩, trivial⟩)
   ·have hnv : nibV b = b.toNat - 87 := by rw [nibV, dig_let kk.1 kk.2]; exact Int.toNat_natCast _
    have e1 : decide (48 ≤ (b.toNat : Int)) = true := dT (by omega)
    have e2 : decide ((b.toNat : Int) ≤ 57) = false := dF (by omega)
    have e3 : decide (97 ≤ (b.toNat : Int)) = true := dT (by omega)
    have e4 : decide ((b.toNat : Int) ≤ 102) = true := dT (by omega)
    have hw52 : IntKind.u8.wrap ((b.toNat : Int) - 97) = ((b.toNat - 97 : Nat) : Int) := by rw [show (b.toNat : Int) - 97 = ((b.toNat - 97 : Nat) : Int) by omega]; exact wrap_u8n (by omega)
    have hw53 : IntKind.u8.wrap (((b.toNat - 97 : Nat) : Int) + 10) = (nibV b : Int) := by rw [show ((b.toNat - 97 : Nat) : Int) + 10 = ((b.toNat - 87 : Nat) : Int) by omega, hnv]; exact wrap_u8n (by omega)
    by_cases ke : i % 2 = 0
    ·have e5 : decide (((i % 2 : Nat) : Int) = 0) = true := dT (by omega)
     have hset := pack_even (s.take i) b (by omega)
     rw [← htk] at hset
     have hln : (packV (s.take i)).length + 1 = (packV (s.take (i + 1))).length := by rw [hset]; simp
     have hA : (packV (s.take i)).length + 1 ≤ 1048576 := by omega
     refine qR ?_;iterate 2 refine rC ?_
     refine rQ (len_s tab_ok rfl rfl) ?_;refine rC ?_;refine nS ?_;refine wT ?_;refine kS ?_;refine wc_seq ?_;refine wc_block ?_;refine sR ?_;refine rC ?_;refine nQ ?_
     refine wc_block ?_;refine sR ?_;iterate 2 refine rC ?_
     refine rQ (index_s (l := s) (m := i) tab_ok rfl rfl rfl hb) ?_;iterate 2 refine rC ?_
     refine rO ?_;refine rC ?_;refine rO ?_;refine rC ?_;refine rO ?_;refine rQ (index_s (l := s) (m := i) tab_ok rfl rfl rfl hb) ?_;refine rO ?_;refine rC ?_;refine rQ iT ?_
     refine rC ?_;refine nS ?_;refine wF ?_;refine sR ?_;iterate 2 refine rC ?_
     refine rQ (index_s (l := s) (m := i) tab_ok rfl rfl rfl hb) ?_;iterate 2 refine rC ?_
     refine rO ?_;refine rC ?_;refine rO ?_;refine rC ?_;refine rO ?_;refine rQ (index_s (l := s) (m := i) tab_ok rfl rfl rfl hb) ?_;refine rO ?_;refine rC ?_;refine rQ iT ?_
     refine rC ?_;refine nS ?_;refine wT ?_;refine wc_region ?_;iterate 2 refine rC ?_
     refine rQ (index_s (l := s) (m := i) tab_ok rfl rfl rfl hb) ?_;refine rQ (sub_int (m := ((b.toNat - 97 : Nat) : Int)) tab_ok rfl rfl hw52) ?_;refine rQ (add_int (m := (nibV b : Int)) tab_ok rfl rfl hw53) ?_
     refine rC ?_;refine reg_nil ?_;refine blk_n ?_;refine seq_n ?_;refine sR ?_;refine rC ?_;refine rQ (rem_nat (a := i) (b := 2) tab_ok rfl rfl rfl (by decide)) ?_
     refine rC ?_;refine nS ?_;refine wT ?_;refine wc_region ?_;iterate 2 refine rC ?_
     refine rQ (mul_int (m := ((16 * nibV b : Nat) : Int)) tab_ok rfl rfl hw59) ?_;refine reg_new (build_slice (s := 1) tab_ok rfl rfl rfl rfl rfl rfl rfl rfl) rfl ?_
     refine reg_new2 (append_one (xs := packV (s.take i)) (s := 1) (enc := encU8) tab_ok ((16 * nibV b : Nat) : Int) rfl rfl rfl rfl rfl rfl rfl rfl rfl hA rfl) rfl ?_
     refine rC ?_;refine reg_nil ?_;refine blk_n ?_;refine seq_n ?_;refine wc_region ?_;refine rC ?_;refine rQ iD ?_;refine rC ?_;refine reg_nil ?_
     exact loop_n (i + 1) [(65, some _)] ⟨hlt, hall'⟩ (by omega) (.of rfl rfl rfl rfl rfl ⟨⟨_, rfl, .refl _⟩, rfl, ⟨_, rfl, AVLe.of_eq (by rw [hln]; rfl)⟩, rfl, ⟨_, rfl, .refl _⟩, rfl, trivial⟩ ⟨⟨rfl, rfl, _, rfl, RowLe.of_eq (by rw [hset]; rfl)⟩, trivial⟩)
    ·have e5 : decide (((i % 2 : Nat) : Int) = 0) = false := dF (by omega)
     obtain ⟨v, hv1, hv0, hset⟩ := pack_odd (s.take i) b (by omega)
     rw [← htk, htl] at hset
     rw [htl] at hv0
     have hv : (packV (s.take i))[(((i / 2 : Nat) : Int)).toNat]? = some (v : Int) := by rw [Int.toNat_natCast]; exact hv0
     have hw71 : IntKind.u8.wrap ((v : Int) + (nibV b : Int)) = ((v + nibV b : Nat) : Int) := by rw [show (v : Int) + (nibV b : Int) = ((v + nibV b : Nat) : Int) by omega]; exact wrap_u8n (by omega)
     have hln : (packV (s.take i)).length = (packV (s.take (i + 1))).length := by rw [hset, List.length_set]
     refine qR ?_;iterate 2 refine rC ?_
     refine rQ (len_s tab_ok rfl rfl) ?_;refine rC ?_;refine nS ?_;refine wT ?_;refine kS ?_;refine wc_seq ?_;refine wc_block ?_;refine sR ?_;refine rC ?_;refine nQ ?_
     refine wc_block ?_;refine sR ?_;iterate 2 refine rC ?_
     refine rQ (index_s (l := s) (m := i) tab_ok rfl rfl rfl hb) ?_;iterate 2 refine rC ?_
     refine rO ?_;refine rC ?_;refine rO ?_;refine rC ?_;refine rO ?_;refine rQ (index_s (l := s) (m := i) tab_ok rfl rfl rfl hb) ?_;refine rO ?_;refine rC ?_;refine rQ iT ?_
     refine rC ?_;refine nS ?_;refine wF ?_;refine sR ?_;iterate 2 refine rC ?_
     refine rQ (index_s (l := s) (m := i) tab_ok rfl rfl rfl hb) ?_;iterate 2 refine rC ?_
     refine rO ?_;refine rC ?_;refine rO ?_;refine rC ?_;refine rO ?_;refine rQ (index_s (l := s) (m := i) tab_ok rfl rfl rfl hb) ?_;refine rO ?_;refine rC ?_;refine rQ iT ?_
     refine rC ?_;refine nS ?_;refine wT ?_;refine wc_region ?_;iterate 2 refine rC ?_
     refine rQ (index_s (l := s) (m := i) tab_ok rfl rfl rfl hb) ?_;refine rQ (sub_int (m := ((b.toNat - 97 : Nat) : Int)) tab_ok rfl rfl hw52) ?_;refine rQ (add_int (m := (nibV b : Int)) tab_ok rfl rfl hw53) ?_
     refine rC ?_;refine reg_nil ?_;refine blk_n ?_;refine seq_n ?_;refine sR ?_;refine rC ?_;refine rQ (rem_nat (a := i) (b := 2) tab_ok rfl rfl rfl (by decide)) ?_
     refine rC ?_;refine nS ?_;refine wF ?_;refine wc_region ?_;iterate 2 refine rC ?_
     refine rQ (quo_nat (a := i) (b := 2) tab_ok rfl rfl rfl (by decide) hw64) ?_;iterate 2 refine rC ?_
     refine rQ (quo_nat (a := i) (b := 2) tab_ok rfl rfl rfl (by decide) hw64) ?_;refine rQ (index_own tab_ok rfl rfl rfl rfl rfl (by omega) (by omega)) ?_;refine rQ (load_row (v := .int .u8 v) tab_ok rfl rfl ⟨rfl, (v : Int), hv, _, rfl, rfl⟩ rfl) ?_
     refine rC ?_;refine rQ (add_int (m := ((v + nibV b : Nat) : Int)) tab_ok rfl rfl hw71) ?_;refine rQ (index_own tab_ok rfl rfl rfl rfl rfl (by omega) (by omega)) ?_
     refine reg_store (store_row tab_ok rfl rfl rfl ⟨rfl, (v : Int), ((v + nibV b : Nat) : Int), hv, ⟨rfl, rfl, rfl⟩, rfl⟩ rfl) ?_;refine reg_nil ?_;refine blk_n ?_;refine seq_n ?_
     refine wc_region ?_;refine rC ?_;refine rQ iD ?_;refine rC ?_;refine reg_nil ?_
     exact loop_n (i + 1) [(65, some _)] ⟨hlt, hall'⟩ (by omega) (.of rfl rfl rfl rfl rfl ⟨⟨_, rfl, .refl _⟩, rfl, ⟨_, rfl, AVLe.of_eq (by rw [← hln]; rfl)⟩, rfl, ⟨_, rfl, .refl _⟩, rfl, trivial⟩ ⟨⟨rfl, rfl, _, rfl, RowLe.of_eq (by rw [hset]; rfl)⟩, trivial⟩)
  ·have hbad := dig_bad (c := b) (fun h => k (.inl h)) (fun h => k (.inr h))
   rw [hun, pairs_bad s b hbm hbad]
   cases e1 : decide (48 ≤ (b.toNat : Int)) with
   | false =>
    have e3 : decide (97 ≤ (b.toNat : Int)) = false := dF (by have := of_decide_eq_false e1; omega)
    refine qR ?_;iterate 2 refine rC ?_
    refine rQ (len_s tab_ok rfl rfl) ?_;refine rC ?_;refine nS ?_;refine wT ?_;refine kS ?_;refine wc_seq ?_;refine wc_block ?_;refine sR ?_;refine rC ?_;refine nQ ?_
    refine wc_block ?_;refine sR ?_;iterate 2 refine rC ?_
    refine rQ (index_s (l := s) (m := i) tab_ok rfl rfl rfl hb) ?_;iterate 2 refine rC ?_
    iterate 4 refine rS ?_
    refine rQ iF ?_;refine rC ?_;refine nS ?_;refine wG ?_;refine sR ?_;iterate 2 refine rC ?_
    refine rQ (index_s (l := s) (m := i) tab_ok rfl rfl rfl hb) ?_;iterate 2 refine rC ?_
    iterate 4 refine rS ?_
    refine rQ iF ?_;refine rC ?_;refine nS ?_;refine wG ?_;refine sR ?_;iterate 2 refine rC ?_
    refine nS ?_;refine wc_ret ?_;refine blk_r ?_;refine seq_r ?_;refine blk_r ?_;refine seq_r ?_;refine loop_r ?_;refine blk_r ?_;refine seq_r ?_
    exact ⟨trivial, [], .of rfl rfl rfl rfl rfl ⟨⟨_, rfl, byR34_n⟩, rfl, trivial⟩ trivial⟩
   | true =>
    have e2 : decide ((b.toNat : Int) ≤ 57) = false := dF (by have := of_decide_eq_true e1; omega)
    cases e3 : decide (97 ≤ (b.toNat : Int)) with
    | false =>
     refine qR ?_;iterate 2 refine rC ?_
     refine rQ (len_s tab_ok rfl rfl) ?_;refine rC ?_;refine nS ?_;refine wT ?_;refine kS ?_;refine wc_seq ?_;refine wc_block ?_;refine sR ?_;refine rC ?_;refine nQ ?_
     refine wc_block ?_;refine sR ?_;iterate 2 refine rC ?_
     refine rQ (index_s (l := s) (m := i) tab_ok rfl rfl rfl hb) ?_;iterate 2 refine rC ?_
     refine rO ?_;refine rC ?_;refine rO ?_;refine rC ?_;refine rO ?_;refine rQ (index_s (l := s) (m := i) tab_ok rfl rfl rfl hb) ?_;refine rO ?_;refine rC ?_;refine rQ iT ?_
     refine rC ?_;refine nS ?_;refine wF ?_;refine sR ?_;iterate 2 refine rC ?_
     refine rQ (index_s (l := s) (m := i) tab_ok rfl rfl rfl hb) ?_;iterate 2 refine rC ?_
     iterate 4 refine rS ?_
     refine rQ iF ?_;refine rC ?_;refine nS ?_;refine wG ?_;refine sR ?_;iterate 2 refine rC ?_
     refine nS ?_;refine wc_ret ?_;refine blk_r ?_;refine seq_r ?_;refine blk_r ?_;refine seq_r ?_;refine loop_r ?_;refine blk_r ?_;refine seq_r ?_
     exact ⟨trivial, [], .of rfl rfl rfl rfl rfl ⟨⟨_, rfl, byR34_n⟩, rfl, trivial⟩ trivial⟩
    | true =>
     have e4 : decide ((b.toNat : Int) ≤ 102) = false := dF (by have := of_decide_eq_true e3; omega)
     refine qR ?_;iterate 2 refine rC ?_
     refine rQ (len_s tab_ok rfl rfl) ?_;refine rC ?_;refine nS ?_;refine wT ?_;refine kS ?_;refine wc_seq ?_;refine wc_block ?_;refine sR ?_;refine rC ?_;refine nQ ?_
     refine wc_block ?_;refine sR ?_;iterate 2 refine rC ?_
     refine rQ (index_s (l := s) (m := i) tab_ok rfl rfl rfl hb) ?_;iterate 2 refine rC ?_
     refine rO ?_;refine rC ?_;refine rO ?_;refine rC ?_;refine rO ?_;refine rQ (index_s (l := s) (m := i) tab_ok rfl rfl rfl hb) ?_;refine rO ?_;refine rC ?_;refine rQ iT ?_
     refine rC ?_;refine nS ?_;refine wF ?_;refine sR ?_;iterate 2 refine rC ?_
     refine rQ (index_s (l := s) (m := i) tab_ok rfl rfl rfl hb) ?_;iterate 2 refine rC ?_
     refine rO ?_;refine rC ?_;refine rO ?_;refine rC ?_;refine rO ?_;refine rQ (index_s (l := s) (m := i) tab_ok rfl rfl rfl hb) ?_;refine rO ?_;refine rC ?_;refine rQ iT ?_
     refine rC ?_;refine nS ?_;refine wF ?_;refine sR ?_;iterate 2 refine rC ?_
     refine nS ?_;refine wc_ret ?_;refine blk_r ?_;refine seq_r ?_;refine blk_r ?_;refine seq_r ?_;refine loop_r ?_;refine blk_r ?_;refine seq_r ?_
     exact ⟨trivial, [], .of rfl rfl rfl rfl rfl ⟨⟨_, rfl, byR34_n⟩, rfl, trivial⟩ trivial⟩
 ·have he : i = s.length := by omega
  subst he
  have d3 : decide ((s.length : Int) < (s.length : Int)) = false := dF (by omega)
  rw [List.take_length] at hall ⊢
  obtain ⟨t, ht1, ht2⟩ := pairs_some s (by omega) hall
  rw [hun, ht1]
  have hres : packV s = byI t := by rw [pack_pairs s (by omega), ht2]
  rw [hres]
  refine wc_freeze (env' := [(5, _), (4, _), (0, _)]) (h' := []) 65 _ rfl ⟨⟨_, rfl, .refl _⟩, ⟨_, rfl, Frz.own rfl⟩, ⟨_, rfl, .refl _⟩, trivial⟩ trivial ?_;refine qR ?_
  iterate 2 refine rC ?_
  refine rQ (len_s tab_ok rfl rfl) ?_;refine rC ?_;refine nS ?_;refine wF ?_;refine wc_exit ?_;refine seq_x ?_;refine loop_x ?_;refine blk_x ?_;refine seq_n ?_;refine sR ?_
  iterate 3 refine rC ?_
  refine nS ?_;refine wc_ret ?_
  exact ⟨trivial, [], lf⟩
def readW (ws : List (List UInt8)) : Option SAct := match ws with
 | [v] => if v = sFall then some ⟨5, 0, 0, [], 0⟩ else none
 | [v, a] => if v = sPick then (numS 31 a).map fun (n : Nat) => ⟨1, n, 0, [], 0⟩
  else if v = sErase then (numS 31 a).map fun (n : Nat) => ⟨3, 0, n, [], 0⟩ else none
 | [v, a, b] => if v = sEdit then (match numS 31 a, unhexP b with
  | some n, some d => some ⟨2, 0, n, d, 0⟩
  | _, _ => none)
  else if v = sReplay then (match numS 31 a, numS 31 b with
  | some n, some k => some ⟨4, 0, n, [], k⟩
  | _, _ => none) else none
 | _ => none
theorem readA_W (t : List UInt8) : readA t = readW (splitL t 32) := by
 unfold readA readW
 rfl
abbrev RdIs (t : List UInt8) (a : SAct) (b : Bool) : Prop := FnIs Tryz.prog 44 [.d (strD t)] [] (.tup (.acons (.d (encAct a)) (.acons (.bool b) .anil))) []
theorem rread_is (t : List UInt8) (ht : t.length ≤ 1048575) : ∃ a, RdIs t a (readA t).isSome ∧ ∀ x, readA t = some x → a = x := by
 have hct := rcut34_is t 32 ht
 obtain ⟨ws, hws⟩ : ∃ ws, splitL t 32 = ws := ⟨_, rfl⟩
 have hne : ws ≠ [] := hws ▸ splitL_ne t 32
 rw [hws] at hct
 have hra : readA t = readW ws := by rw [← hws]; exact readA_W t
 have hmem : ∀ w ∈ ws, w.length ≤ t.length := fun w hw => split_mem_le t 32 w (by rw [hws]; exact hw)
 rw [hra]
 clear hra hws
 obtain ⟨v, r0, hv⟩ : ∃ v r, ws = v :: r := List.exists_cons_of_ne_nil hne
 have g0 : ws[((0 : Int)).toNat]? = some v := by rw [hv]; rfl
 by_cases h1 : ws.length = 1
 ·have hr : ws = [v] := by rw [hv] at h1 ⊢; simp only [List.length_cons] at h1; rw [List.eq_nil_of_length_eq_zero (by omega : r0.length = 0)]
  have d1 : decide ((ws.length : Int) = 1) = true := dT (by omega)
  have d2 : decide ((ws.length : Int) < 2) = true := dT (by omega)
  have er : readW ws = if v = sFall then some ⟨5, 0, 0, [], 0⟩ else none := by rw [hr]; rfl
  rw [er]
  by_cases k : v = sFall
  ·have e : decide (v = sFall) = true := dT k
   rw [if_pos k]
   refine ⟨⟨5, 0, 0, [], 0⟩, ?_, fun x hx => Option.some.inj hx⟩
   refine fnIs_of tab_ok Tryz.func44 rfl rfl rfl ?_;refine sR ?_;refine rN ?_;refine rC ?_;refine nR ?_;refine rC ?_;refine rQ (call_r hct rfl rfl (arg_e (arg_e arg_nil)) (.inl rfl) (fun _ => rfl)) ?_
   refine rC ?_;refine nQ ?_;refine sR ?_;refine rC ?_;refine rQ iE ?_;iterate 2 refine rC ?_
   refine rO ?_;refine rC ?_;refine rO ?_;refine rQ (index_arr tab_ok rfl rfl rfl rfl rfl (by decide) g0) ?_;refine rO ?_;refine rQ iL ?_;refine rO ?_;refine rQ (eql_s (a := v) (b := sFall) tab_ok rfl rfl rfl) ?_
   refine rQ iT ?_;refine nS ?_;refine wT ?_;refine sR ?_;refine rQ iS ?_;refine rW ?_;refine rC ?_;refine nS ?_;refine wc_ret ?_;refine seq_r ?_
   exact ⟨trivial, _, rfl, [], .of rfl rfl rfl rfl rfl ⟨⟨_, rfl, AVLe.tup1 (act_le _ _ _ _) rfl⟩, rfl, trivial⟩ trivial⟩
  ·have e : decide (v = sFall) = false := dF k
   rw [if_neg k]
   refine ⟨⟨0, 0, 0, [], 0⟩, ?_, fun x hx => by cases hx⟩
   refine fnIs_of tab_ok Tryz.func44 rfl rfl rfl ?_;refine sR ?_;refine rN ?_;refine rC ?_;refine nR ?_;refine rC ?_;refine rQ (call_r hct rfl rfl (arg_e (arg_e arg_nil)) (.inl rfl) (fun _ => rfl)) ?_
   refine rC ?_;refine nQ ?_;refine sR ?_;refine rC ?_;refine rQ iE ?_;iterate 2 refine rC ?_
   refine rO ?_;refine rC ?_;refine rO ?_;refine rQ (index_arr tab_ok rfl rfl rfl rfl rfl (by decide) g0) ?_;refine rO ?_;refine rQ iL ?_;refine rO ?_;refine rQ (eql_s (a := v) (b := sFall) tab_ok rfl rfl rfl) ?_
   refine rQ iT ?_;refine nS ?_;refine wF ?_;refine kS ?_;refine qR ?_;refine rC ?_;refine rQ iE ?_;refine rC ?_;refine nS ?_;refine wT ?_;refine sR ?_;refine rQ iS ?_
   refine rW ?_;refine rC ?_;refine nS ?_;refine wc_ret ?_;refine seq_r ?_
   exact ⟨trivial, _, rfl, [], .of rfl rfl rfl rfl rfl ⟨⟨_, rfl, AVLe.tup1 (act_le _ _ _ _) rfl⟩, rfl, trivial⟩ trivial⟩
 have d1 : decide ((ws.length : Int) = 1) = false := dF (by omega)
 have hl0 : 1 ≤ ws.length := List.length_pos_iff.2 hne
 have d2 : decide ((ws.length : Int) < 2) = false := dF (by omega)
 obtain ⟨a, r1, ha⟩ : ∃ a r, r0 = a :: r := List.exists_cons_of_ne_nil (fun e => by rw [e] at hv; rw [hv] at h1; exact h1 rfl)
 subst ha
 have g1 : ws[((1 : Int)).toNat]? = some a := by rw [hv]; rfl
 obtain ⟨x1, hn1, hx1⟩ := rnum34_is a 31 (by decide)
 cases hn : numS 31 a with
 | none =>
  rw [hn] at hn1
  have er : readW ws = none := by
   rw [hv]
   cases r1 with
   | nil => simp [readW, hn]
   | cons b r2 =>
    cases r2 with
    | nil => simp [readW, hn]
    | cons c r3 => rfl
  rw [er]
  refine ⟨⟨0, 0, 0, [], 0⟩, ?_, fun x hx => by cases hx⟩
  refine fnIs_of tab_ok Tryz.func44 rfl rfl rfl ?_;refine sR ?_;refine rN ?_;refine rC ?_;refine nR ?_;refine rC ?_;refine rQ (call_r hct rfl rfl (arg_e (arg_e arg_nil)) (.inl rfl) (fun _ => rfl)) ?_
  refine rC ?_;refine nQ ?_;refine sR ?_;refine rC ?_;refine rQ iE ?_;iterate 2 refine rC ?_
  iterate 4 refine rS ?_
  refine rQ iF ?_;refine nS ?_;refine wG ?_;refine kS ?_;refine qR ?_;refine rC ?_;refine rQ iE ?_;refine rC ?_;refine nS ?_;refine wF ?_;refine kS ?_;refine sR ?_
  refine rC ?_;refine rQ (index_arr tab_ok rfl rfl rfl rfl rfl (by decide) g1) ?_;refine rQ iL ?_;refine rQ (call_r hn1 rfl rfl (arg_e (arg_e arg_nil)) (.inl rfl) (fun _ => rfl)) ?_
  iterate 5 refine rC ?_
  refine nQ ?_;refine sR ?_;iterate 2 refine rC ?_
  refine nS ?_;refine wV ?_;refine sR ?_;refine rQ iS ?_;refine rW ?_;refine rC ?_;refine nS ?_;refine wc_ret ?_;refine seq_r ?_
  exact ⟨trivial, _, rfl, [], .of rfl rfl rfl rfl rfl ⟨⟨_, rfl, AVLe.tup1 (act_le _ _ _ _) rfl⟩, rfl, trivial⟩ trivial⟩
 | some n =>
  obtain rfl := hx1 n hn
  rw [hn] at hn1
  have hlt := numS_lt hn
  have hwn : IntKind.i64.wrap (n : Int) = (n : Int) := wrap_i64 (by omega) (by omega)
  by_cases h2 : ws.length = 2
  ·have hr : ws = [v, a] := by rw [hv] at h2 ⊢; simp only [List.length_cons] at h2; rw [List.eq_nil_of_length_eq_zero (by omega : r1.length = 0)]
   have d3 : decide ((ws.length : Int) = 2) = true := dT (by omega)
   have d4 : decide ((ws.length : Int) = 3) = false := dF (by omega)
   have er : readW ws = if v = sPick then some ⟨1, n, 0, [], 0⟩ else if v = sErase then some ⟨3, 0, n, [], 0⟩ else none := by rw [hr]; simp [readW, hn]
   rw [er]
   by_cases k : v = sPick
   ·have e : decide (v = sPick) = true := dT k
    rw [if_pos k]
    refine ⟨⟨1, n, 0, [], 0⟩, ?_, fun x hx => Option.some.inj hx⟩
    refine fnIs_of tab_ok Tryz.func44 rfl rfl rfl ?_;refine sR ?_;refine rN ?_;refine rC ?_;refine nR ?_;refine rC ?_;refine rQ (call_r hct rfl rfl (arg_e (arg_e arg_nil)) (.inl rfl) (fun _ => rfl)) ?_
    refine rC ?_;refine nQ ?_;refine sR ?_;refine rC ?_;refine rQ iE ?_;iterate 2 refine rC ?_
    iterate 4 refine rS ?_
    refine rQ iF ?_;refine nS ?_;refine wG ?_;refine kS ?_;refine qR ?_;refine rC ?_;refine rQ iE ?_;refine rC ?_;refine nS ?_;refine wF ?_;refine kS ?_;refine sR ?_
    refine rC ?_;refine rQ (index_arr tab_ok rfl rfl rfl rfl rfl (by decide) g1) ?_;refine rQ iL ?_;refine rQ (call_r hn1 rfl rfl (arg_e (arg_e arg_nil)) (.inl rfl) (fun _ => rfl)) ?_
    iterate 5 refine rC ?_
    refine nQ ?_;refine sR ?_;iterate 2 refine rC ?_
    refine nS ?_;refine wG ?_;refine kS ?_;refine qR ?_;refine rC ?_;refine rQ iE ?_;iterate 2 refine rC ?_
    refine rO ?_;refine rC ?_;refine rO ?_;refine rQ (index_arr tab_ok rfl rfl rfl rfl rfl (by decide) g0) ?_;refine rO ?_;refine rQ iL ?_;refine rO ?_;refine rQ (eql_s (a := v) (b := sPick) tab_ok rfl rfl rfl) ?_
    refine rQ iT ?_;refine nS ?_;refine wT ?_;refine sR ?_;refine rC ?_;refine rQ (conv_int (m := (n : Int)) tab_ok rfl rfl rfl hwn) ?_;refine rQ iS ?_;refine rW ?_
    refine rC ?_;refine nS ?_;refine wc_ret ?_;refine seq_r ?_
    exact ⟨trivial, _, rfl, [], .of rfl rfl rfl rfl rfl ⟨⟨_, rfl, AVLe.tup1 (act_le _ _ _ _) rfl⟩, rfl, trivial⟩ trivial⟩
   have e : decide (v = sPick) = false := dF k
   rw [if_neg k]
   by_cases k2 : v = sErase
   ·have e2 : decide (v = sErase) = true := dT k2
    rw [if_pos k2]
    refine ⟨⟨3, 0, n, [], 0⟩, ?_, fun x hx => Option.some.inj hx⟩
    refine fnIs_of tab_ok Tryz.func44 rfl rfl rfl ?_;refine sR ?_;refine rN ?_;refine rC ?_;refine nR ?_;refine rC ?_;refine rQ (call_r hct rfl rfl (arg_e (arg_e arg_nil)) (.inl rfl) (fun _ => rfl)) ?_
    refine rC ?_;refine nQ ?_;refine sR ?_;refine rC ?_;refine rQ iE ?_;iterate 2 refine rC ?_
    iterate 4 refine rS ?_
    refine rQ iF ?_;refine nS ?_;refine wG ?_;refine kS ?_;refine qR ?_;refine rC ?_;refine rQ iE ?_;refine rC ?_;refine nS ?_;refine wF ?_;refine kS ?_;refine sR ?_
    refine rC ?_;refine rQ (index_arr tab_ok rfl rfl rfl rfl rfl (by decide) g1) ?_;refine rQ iL ?_;refine rQ (call_r hn1 rfl rfl (arg_e (arg_e arg_nil)) (.inl rfl) (fun _ => rfl)) ?_
    iterate 5 refine rC ?_
    refine nQ ?_;refine sR ?_;iterate 2 refine rC ?_
    refine nS ?_;refine wG ?_;refine kS ?_;refine qR ?_;refine rC ?_;refine rQ iE ?_;iterate 2 refine rC ?_
    refine rO ?_;refine rC ?_;refine rO ?_;refine rQ (index_arr tab_ok rfl rfl rfl rfl rfl (by decide) g0) ?_;refine rO ?_;refine rQ iL ?_;refine rO ?_;refine rQ (eql_s (a := v) (b := sPick) tab_ok rfl rfl rfl) ?_
    refine rQ iT ?_;refine nS ?_;refine wF ?_;refine kS ?_;refine qR ?_;refine rC ?_;refine rQ iE ?_;iterate 2 refine rC ?_
    refine rO ?_;refine rC ?_;refine rO ?_;refine rQ (index_arr tab_ok rfl rfl rfl rfl rfl (by decide) g0) ?_;refine rO ?_;refine rQ iL ?_;refine rO ?_;refine rQ (eql_s (a := v) (b := sErase) tab_ok rfl rfl rfl) ?_
    refine rQ iT ?_;refine nS ?_;refine wT ?_;refine sR ?_;refine rC ?_;refine rQ (conv_int (m := (n : Int)) tab_ok rfl rfl rfl hwn) ?_;refine rQ iS ?_;refine rW ?_
    refine rC ?_;refine nS ?_;refine wc_ret ?_;refine seq_r ?_
    exact ⟨trivial, _, rfl, [], .of rfl rfl rfl rfl rfl ⟨⟨_, rfl, AVLe.tup1 (act_le _ _ _ _) rfl⟩, rfl, trivial⟩ trivial⟩
   have e2 : decide (v = sErase) = false := dF k2
   rw [if_neg k2]
   refine ⟨⟨0, 0, 0, [], 0⟩, ?_, fun x hx => by cases hx⟩
   refine fnIs_of tab_ok Tryz.func44 rfl rfl rfl ?_;refine sR ?_;refine rN ?_;refine rC ?_;refine nR ?_;refine rC ?_;refine rQ (call_r hct rfl rfl (arg_e (arg_e arg_nil)) (.inl rfl) (fun _ => rfl)) ?_
   refine rC ?_;refine nQ ?_;refine sR ?_;refine rC ?_;refine rQ iE ?_;iterate 2 refine rC ?_
   iterate 4 refine rS ?_
   refine rQ iF ?_;refine nS ?_;refine wG ?_;refine kS ?_;refine qR ?_;refine rC ?_;refine rQ iE ?_;refine rC ?_;refine nS ?_;refine wF ?_;refine kS ?_;refine sR ?_
   refine rC ?_;refine rQ (index_arr tab_ok rfl rfl rfl rfl rfl (by decide) g1) ?_;refine rQ iL ?_;refine rQ (call_r hn1 rfl rfl (arg_e (arg_e arg_nil)) (.inl rfl) (fun _ => rfl)) ?_
   iterate 5 refine rC ?_
   refine nQ ?_;refine sR ?_;iterate 2 refine rC ?_
   refine nS ?_;refine wG ?_;refine kS ?_;refine qR ?_;refine rC ?_;refine rQ iE ?_;iterate 2 refine rC ?_
   refine rO ?_;refine rC ?_;refine rO ?_;refine rQ (index_arr tab_ok rfl rfl rfl rfl rfl (by decide) g0) ?_;refine rO ?_;refine rQ iL ?_;refine rO ?_;refine rQ (eql_s (a := v) (b := sPick) tab_ok rfl rfl rfl) ?_
   refine rQ iT ?_;refine nS ?_;refine wF ?_;refine kS ?_;refine qR ?_;refine rC ?_;refine rQ iE ?_;iterate 2 refine rC ?_
   refine rO ?_;refine rC ?_;refine rO ?_;refine rQ (index_arr tab_ok rfl rfl rfl rfl rfl (by decide) g0) ?_;refine rO ?_;refine rQ iL ?_;refine rO ?_;refine rQ (eql_s (a := v) (b := sErase) tab_ok rfl rfl rfl) ?_
   refine rQ iT ?_;refine nS ?_;refine wF ?_;refine kS ?_;refine qR ?_;refine rC ?_;refine rQ iE ?_;iterate 2 refine rC ?_
   iterate 4 refine rS ?_
   refine rQ iF ?_;refine nS ?_;refine wG ?_;refine kS ?_;refine qR ?_;refine rC ?_;refine rQ iE ?_;iterate 2 refine rC ?_
   iterate 4 refine rS ?_
   refine rQ iF ?_;refine nS ?_;refine wG ?_;refine kS ?_;refine sR ?_;refine rQ iS ?_;refine rW ?_;refine rC ?_;refine nS ?_;refine wc_ret ?_
   exact ⟨trivial, _, rfl, [], .of rfl rfl rfl rfl rfl ⟨⟨_, rfl, AVLe.tup1 (act_le _ _ _ _) rfl⟩, rfl, trivial⟩ trivial⟩
  have d3 : decide ((ws.length : Int) = 2) = false := dF (by omega)
  obtain ⟨b, r2, hb⟩ : ∃ b r, r1 = b :: r := List.exists_cons_of_ne_nil (fun e => by rw [e] at hv; rw [hv] at h2; exact h2 rfl)
  subst hb
  by_cases h3 : ws.length = 3
  ·have hr : ws = [v, a, b] := by rw [hv] at h3 ⊢; simp only [List.length_cons] at h3; rw [List.eq_nil_of_length_eq_zero (by omega : r2.length = 0)]
   have d4 : decide ((ws.length : Int) = 3) = true := dT (by omega)
   have g2 : ws[((2 : Int)).toNat]? = some b := by rw [hv]; rfl
   have hbl : b.length ≤ 1048575 := Nat.le_trans (hmem b (by rw [hr]; simp)) ht
   have er : readW ws = if v = sEdit then (match unhexP b with | some d => some ⟨2, 0, n, d, 0⟩ | none => none) else if v = sReplay then (match numS 31 b with | some k => some ⟨4, 0, n, [], k⟩ | none => none) else none := by
    rw [hr]
    simp only [readW, hn]
    split
    ·cases unhexP b <;> rfl
    ·split
     ·cases numS 31 b <;> rfl
     ·rfl
   rw [er]
   by_cases k : v = sEdit
   ·have e : decide (v = sEdit) = true := dT k
    rw [if_pos k]
    have hby := rbytes34_is b hbl
    cases hu : unhexP b with
    | none =>
     rw [hu] at hby
     refine ⟨⟨2, 0, n, [], 0⟩, ?_, fun x hx => by cases hx⟩
     refine fnIs_of tab_ok Tryz.func44 rfl rfl rfl ?_;refine sR ?_;refine rN ?_;refine rC ?_;refine nR ?_;refine rC ?_;refine rQ (call_r hct rfl rfl (arg_e (arg_e arg_nil)) (.inl rfl) (fun _ => rfl)) ?_
     refine rC ?_;refine nQ ?_;refine sR ?_;refine rC ?_;refine rQ iE ?_;iterate 2 refine rC ?_
     iterate 4 refine rS ?_
     refine rQ iF ?_;refine nS ?_;refine wG ?_;refine kS ?_;refine qR ?_;refine rC ?_;refine rQ iE ?_;refine rC ?_;refine nS ?_;refine wF ?_;refine kS ?_;refine sR ?_
     refine rC ?_;refine rQ (index_arr tab_ok rfl rfl rfl rfl rfl (by decide) g1) ?_;refine rQ iL ?_;refine rQ (call_r hn1 rfl rfl (arg_e (arg_e arg_nil)) (.inl rfl) (fun _ => rfl)) ?_
     iterate 5 refine rC ?_
     refine nQ ?_;refine sR ?_;iterate 2 refine rC ?_
     refine nS ?_;refine wG ?_;refine kS ?_;refine qR ?_;refine rC ?_;refine rQ iE ?_;iterate 2 refine rC ?_
     iterate 4 refine rS ?_
     refine rQ iF ?_;refine nS ?_;refine wG ?_;refine kS ?_;refine qR ?_;refine rC ?_;refine rQ iE ?_;iterate 2 refine rC ?_
     iterate 4 refine rS ?_
     refine rQ iF ?_;refine nS ?_;refine wG ?_;refine kS ?_;refine qR ?_;refine rC ?_;refine rQ iE ?_;iterate 2 refine rC ?_
     refine rO ?_;refine rC ?_;refine rO ?_;refine rQ (index_arr tab_ok rfl rfl rfl rfl rfl (by decide) g0) ?_;refine rO ?_;refine rQ iL ?_;refine rO ?_;refine rQ (eql_s (a := v) (b := sEdit) tab_ok rfl rfl rfl) ?_
     refine rQ iT ?_;refine nS ?_;refine wT ?_;refine sR ?_;refine rC ?_;refine rQ (index_arr tab_ok rfl rfl rfl rfl rfl (by decide) g2) ?_;refine rQ iL ?_;refine rQ (call_r hby rfl rfl (arg_e arg_nil) (.inl rfl) (fun _ => rfl)) ?_
     iterate 5 refine rC ?_
     refine nR ?_;refine rC ?_;refine rQ (conv_int (m := (n : Int)) tab_ok rfl rfl rfl hwn) ?_;refine rC ?_;refine rQ iS ?_;refine rC ?_;refine rW ?_;refine rC ?_;refine nS ?_
     refine wc_ret ?_;refine seq_r ?_
     exact ⟨trivial, _, rfl, [], lf⟩
    | some d =>
     rw [hu] at hby
     refine ⟨⟨2, 0, n, d, 0⟩, ?_, fun x hx => Option.some.inj hx⟩
     refine fnIs_of tab_ok Tryz.func44 rfl rfl rfl ?_;refine sR ?_;refine rN ?_;refine rC ?_;refine nR ?_;refine rC ?_;refine rQ (call_r hct rfl rfl (arg_e (arg_e arg_nil)) (.inl rfl) (fun _ => rfl)) ?_
     refine rC ?_;refine nQ ?_;refine sR ?_;refine rC ?_;refine rQ iE ?_;iterate 2 refine rC ?_
     iterate 4 refine rS ?_
     refine rQ iF ?_;refine nS ?_;refine wG ?_;refine kS ?_;refine qR ?_;refine rC ?_;refine rQ iE ?_;refine rC ?_;refine nS ?_;refine wF ?_;refine kS ?_;refine sR ?_
     refine rC ?_;refine rQ (index_arr tab_ok rfl rfl rfl rfl rfl (by decide) g1) ?_;refine rQ iL ?_;refine rQ (call_r hn1 rfl rfl (arg_e (arg_e arg_nil)) (.inl rfl) (fun _ => rfl)) ?_
     iterate 5 refine rC ?_
     refine nQ ?_;refine sR ?_;iterate 2 refine rC ?_
     refine nS ?_;refine wG ?_;refine kS ?_;refine qR ?_;refine rC ?_;refine rQ iE ?_;iterate 2 refine rC ?_
     iterate 4 refine rS ?_
     refine rQ iF ?_;refine nS ?_;refine wG ?_;refine kS ?_;refine qR ?_;refine rC ?_;refine rQ iE ?_;iterate 2 refine rC ?_
     iterate 4 refine rS ?_
     refine rQ iF ?_;refine nS ?_;refine wG ?_;refine kS ?_;refine qR ?_;refine rC ?_;refine rQ iE ?_;iterate 2 refine rC ?_
     refine rO ?_;refine rC ?_;refine rO ?_;refine rQ (index_arr tab_ok rfl rfl rfl rfl rfl (by decide) g0) ?_;refine rO ?_;refine rQ iL ?_;refine rO ?_;refine rQ (eql_s (a := v) (b := sEdit) tab_ok rfl rfl rfl) ?_
     refine rQ iT ?_;refine nS ?_;refine wT ?_;refine sR ?_;refine rC ?_;refine rQ (index_arr tab_ok rfl rfl rfl rfl rfl (by decide) g2) ?_;refine rQ iL ?_;refine rQ (call_r hby rfl rfl (arg_e arg_nil) (.inl rfl) (fun _ => rfl)) ?_
     iterate 5 refine rC ?_
     refine nR ?_;refine rC ?_;refine rQ (conv_int (m := (n : Int)) tab_ok rfl rfl rfl hwn) ?_;refine rC ?_;refine rQ iS ?_;refine rC ?_;refine rW ?_;refine rC ?_;refine nS ?_
     refine wc_ret ?_;refine seq_r ?_
     exact ⟨trivial, _, rfl, [], lf⟩
   have e : decide (v = sEdit) = false := dF k
   rw [if_neg k]
   by_cases k2 : v = sReplay
   ·have e2 : decide (v = sReplay) = true := dT k2
    rw [if_pos k2]
    obtain ⟨x2, hn2, hx2⟩ := rnum34_is b 31 (by decide)
    obtain ⟨xk, hwk⟩ : ∃ y, IntKind.i64.wrap x2 = y := ⟨_, rfl⟩
    cases hm : numS 31 b with
    | none =>
     rw [hm] at hn2
     refine ⟨⟨4, 0, n, [], xk⟩, ?_, fun x hx => by cases hx⟩
     refine fnIs_of tab_ok Tryz.func44 rfl rfl rfl ?_;refine sR ?_;refine rN ?_;refine rC ?_;refine nR ?_;refine rC ?_;refine rQ (call_r hct rfl rfl (arg_e (arg_e arg_nil)) (.inl rfl) (fun _ => rfl)) ?_
     refine rC ?_;refine nQ ?_;refine sR ?_;refine rC ?_;refine rQ iE ?_;iterate 2 refine rC ?_
     iterate 4 refine rS ?_
     refine rQ iF ?_;refine nS ?_;refine wG ?_;refine kS ?_;refine qR ?_;refine rC ?_;refine rQ iE ?_;refine rC ?_;refine nS ?_;refine wF ?_;refine kS ?_;refine sR ?_
     refine rC ?_;refine rQ (index_arr tab_ok rfl rfl rfl rfl rfl (by decide) g1) ?_;refine rQ iL ?_;refine rQ (call_r hn1 rfl rfl (arg_e (arg_e arg_nil)) (.inl rfl) (fun _ => rfl)) ?_
     iterate 5 refine rC ?_
     refine nQ ?_;refine sR ?_;iterate 2 refine rC ?_
     refine nS ?_;refine wG ?_;refine kS ?_;refine qR ?_;refine rC ?_;refine rQ iE ?_;iterate 2 refine rC ?_
     iterate 4 refine rS ?_
     refine rQ iF ?_;refine nS ?_;refine wG ?_;refine kS ?_;refine qR ?_;refine rC ?_;refine rQ iE ?_;iterate 2 refine rC ?_
     iterate 4 refine rS ?_
     refine rQ iF ?_;refine nS ?_;refine wG ?_;refine kS ?_;refine qR ?_;refine rC ?_;refine rQ iE ?_;iterate 2 refine rC ?_
     refine rO ?_;refine rC ?_;refine rO ?_;refine rQ (index_arr tab_ok rfl rfl rfl rfl rfl (by decide) g0) ?_;refine rO ?_;refine rQ iL ?_;refine rO ?_;refine rQ (eql_s (a := v) (b := sEdit) tab_ok rfl rfl rfl) ?_
     refine rQ iT ?_;refine nS ?_;refine wF ?_;refine kS ?_;refine qR ?_;refine rC ?_;refine rQ iE ?_;iterate 2 refine rC ?_
     refine rO ?_;refine rC ?_;refine rO ?_;refine rQ (index_arr tab_ok rfl rfl rfl rfl rfl (by decide) g0) ?_;refine rO ?_;refine rQ iL ?_;refine rO ?_;refine rQ (eql_s (a := v) (b := sReplay) tab_ok rfl rfl rfl) ?_
     refine rQ iT ?_;refine nS ?_;refine wT ?_;refine sR ?_;refine rC ?_;refine rQ (index_arr tab_ok rfl rfl rfl rfl rfl (by decide) g2) ?_;refine rQ iL ?_;refine rQ (call_r hn2 rfl rfl (arg_e (arg_e arg_nil)) (.inl rfl) (fun _ => rfl)) ?_
     iterate 5 refine rC ?_
     refine nR ?_;refine rC ?_;refine rQ (conv_int (m := (n : Int)) tab_ok rfl rfl rfl hwn) ?_;refine rC ?_;refine rQ (conv_int (m := xk) tab_ok rfl rfl rfl hwk) ?_;refine rQ iS ?_
     refine rC ?_;refine rW ?_;refine rC ?_;refine nS ?_;refine wc_ret ?_;refine seq_r ?_
     exact ⟨trivial, _, rfl, [], .of rfl rfl rfl rfl rfl ⟨⟨_, rfl, AVLe.tup1 (act_le _ _ _ _) rfl⟩, rfl, trivial⟩ trivial⟩
    | some q =>
     obtain rfl := hx2 q hm
     rw [hm] at hn2
     have hlq := numS_lt hm
     obtain rfl : (q : Int) = xk := by rw [← hwk]; exact (wrap_i64 (by omega) (by omega)).symm
     refine ⟨⟨4, 0, n, [], q⟩, ?_, fun x hx => Option.some.inj hx⟩
     refine fnIs_of tab_ok Tryz.func44 rfl rfl rfl ?_;refine sR ?_;refine rN ?_;refine rC ?_;refine nR ?_;refine rC ?_;refine rQ (call_r hct rfl rfl (arg_e (arg_e arg_nil)) (.inl rfl) (fun _ => rfl)) ?_
     refine rC ?_;refine nQ ?_;refine sR ?_;refine rC ?_;refine rQ iE ?_;iterate 2 refine rC ?_
     iterate 4 refine rS ?_
     refine rQ iF ?_;refine nS ?_;refine wG ?_;refine kS ?_;refine qR ?_;refine rC ?_;refine rQ iE ?_;refine rC ?_;refine nS ?_;refine wF ?_;refine kS ?_;refine sR ?_
     refine rC ?_;refine rQ (index_arr tab_ok rfl rfl rfl rfl rfl (by decide) g1) ?_;refine rQ iL ?_;refine rQ (call_r hn1 rfl rfl (arg_e (arg_e arg_nil)) (.inl rfl) (fun _ => rfl)) ?_
     iterate 5 refine rC ?_
     refine nQ ?_;refine sR ?_;iterate 2 refine rC ?_
     refine nS ?_;refine wG ?_;refine kS ?_;refine qR ?_;refine rC ?_;refine rQ iE ?_;iterate 2 refine rC ?_
     iterate 4 refine rS ?_
     refine rQ iF ?_;refine nS ?_;refine wG ?_;refine kS ?_;refine qR ?_;refine rC ?_;refine rQ iE ?_;iterate 2 refine rC ?_
     iterate 4 refine rS ?_
     refine rQ iF ?_;refine nS ?_;refine wG ?_;refine kS ?_;refine qR ?_;refine rC ?_;refine rQ iE ?_;iterate 2 refine rC ?_
     refine rO ?_;refine rC ?_;refine rO ?_;refine rQ (index_arr tab_ok rfl rfl rfl rfl rfl (by decide) g0) ?_;refine rO ?_;refine rQ iL ?_;refine rO ?_;refine rQ (eql_s (a := v) (b := sEdit) tab_ok rfl rfl rfl) ?_
     refine rQ iT ?_;refine nS ?_;refine wF ?_;refine kS ?_;refine qR ?_;refine rC ?_;refine rQ iE ?_;iterate 2 refine rC ?_
     refine rO ?_;refine rC ?_;refine rO ?_;refine rQ (index_arr tab_ok rfl rfl rfl rfl rfl (by decide) g0) ?_;refine rO ?_;refine rQ iL ?_;refine rO ?_;refine rQ (eql_s (a := v) (b := sReplay) tab_ok rfl rfl rfl) ?_
     refine rQ iT ?_;refine nS ?_;refine wT ?_;refine sR ?_;refine rC ?_;refine rQ (index_arr tab_ok rfl rfl rfl rfl rfl (by decide) g2) ?_;refine rQ iL ?_;refine rQ (call_r hn2 rfl rfl (arg_e (arg_e arg_nil)) (.inl rfl) (fun _ => rfl)) ?_
     iterate 5 refine rC ?_
     refine nR ?_;refine rC ?_;refine rQ (conv_int (m := (n : Int)) tab_ok rfl rfl rfl hwn) ?_;refine rC ?_;refine rQ (conv_int (m := (q : Int)) tab_ok rfl rfl rfl hwk) ?_
     refine rQ iS ?_;refine rC ?_;refine rW ?_;refine rC ?_;refine nS ?_;refine wc_ret ?_;refine seq_r ?_
     exact ⟨trivial, _, rfl, [], .of rfl rfl rfl rfl rfl ⟨⟨_, rfl, AVLe.tup1 (act_le _ _ _ _) rfl⟩, rfl, trivial⟩ trivial⟩
   have e2 : decide (v = sReplay) = false := dF k2
   rw [if_neg k2]
   refine ⟨⟨0, 0, 0, [], 0⟩, ?_, fun x hx => by cases hx⟩
   refine fnIs_of tab_ok Tryz.func44 rfl rfl rfl ?_;refine sR ?_;refine rN ?_;refine rC ?_;refine nR ?_;refine rC ?_;refine rQ (call_r hct rfl rfl (arg_e (arg_e arg_nil)) (.inl rfl) (fun _ => rfl)) ?_
   refine rC ?_;refine nQ ?_;refine sR ?_;refine rC ?_;refine rQ iE ?_;iterate 2 refine rC ?_
   iterate 4 refine rS ?_
   refine rQ iF ?_;refine nS ?_;refine wG ?_;refine kS ?_;refine qR ?_;refine rC ?_;refine rQ iE ?_;refine rC ?_;refine nS ?_;refine wF ?_;refine kS ?_;refine sR ?_
   refine rC ?_;refine rQ (index_arr tab_ok rfl rfl rfl rfl rfl (by decide) g1) ?_;refine rQ iL ?_;refine rQ (call_r hn1 rfl rfl (arg_e (arg_e arg_nil)) (.inl rfl) (fun _ => rfl)) ?_
   iterate 5 refine rC ?_
   refine nQ ?_;refine sR ?_;iterate 2 refine rC ?_
   refine nS ?_;refine wG ?_;refine kS ?_;refine qR ?_;refine rC ?_;refine rQ iE ?_;iterate 2 refine rC ?_
   iterate 4 refine rS ?_
   refine rQ iF ?_;refine nS ?_;refine wG ?_;refine kS ?_;refine qR ?_;refine rC ?_;refine rQ iE ?_;iterate 2 refine rC ?_
   iterate 4 refine rS ?_
   refine rQ iF ?_;refine nS ?_;refine wG ?_;refine kS ?_;refine qR ?_;refine rC ?_;refine rQ iE ?_;iterate 2 refine rC ?_
   refine rO ?_;refine rC ?_;refine rO ?_;refine rQ (index_arr tab_ok rfl rfl rfl rfl rfl (by decide) g0) ?_;refine rO ?_;refine rQ iL ?_;refine rO ?_;refine rQ (eql_s (a := v) (b := sEdit) tab_ok rfl rfl rfl) ?_
   refine rQ iT ?_;refine nS ?_;refine wF ?_;refine kS ?_;refine qR ?_;refine rC ?_;refine rQ iE ?_;iterate 2 refine rC ?_
   refine rO ?_;refine rC ?_;refine rO ?_;refine rQ (index_arr tab_ok rfl rfl rfl rfl rfl (by decide) g0) ?_;refine rO ?_;refine rQ iL ?_;refine rO ?_;refine rQ (eql_s (a := v) (b := sReplay) tab_ok rfl rfl rfl) ?_
   refine rQ iT ?_;refine nS ?_;refine wF ?_;refine kS ?_;refine sR ?_;refine rQ iS ?_;refine rW ?_;refine rC ?_;refine nS ?_;refine wc_ret ?_
   exact ⟨trivial, _, rfl, [], .of rfl rfl rfl rfl rfl ⟨⟨_, rfl, AVLe.tup1 (act_le _ _ _ _) rfl⟩, rfl, trivial⟩ trivial⟩
  ·have d4 : decide ((ws.length : Int) = 3) = false := dF (by omega)
   have er : readW ws = none := by
    rw [hv]
    cases r2 with
    | nil => rw [hv] at h3; exact absurd rfl h3
    | cons c r3 => rfl
   rw [er]
   refine ⟨⟨0, 0, 0, [], 0⟩, ?_, fun x hx => by cases hx⟩
   refine fnIs_of tab_ok Tryz.func44 rfl rfl rfl ?_;refine sR ?_;refine rN ?_;refine rC ?_;refine nR ?_;refine rC ?_;refine rQ (call_r hct rfl rfl (arg_e (arg_e arg_nil)) (.inl rfl) (fun _ => rfl)) ?_
   refine rC ?_;refine nQ ?_;refine sR ?_;refine rC ?_;refine rQ iE ?_;iterate 2 refine rC ?_
   iterate 4 refine rS ?_
   refine rQ iF ?_;refine nS ?_;refine wG ?_;refine kS ?_;refine qR ?_;refine rC ?_;refine rQ iE ?_;refine rC ?_;refine nS ?_;refine wF ?_;refine kS ?_;refine sR ?_
   refine rC ?_;refine rQ (index_arr tab_ok rfl rfl rfl rfl rfl (by decide) g1) ?_;refine rQ iL ?_;refine rQ (call_r hn1 rfl rfl (arg_e (arg_e arg_nil)) (.inl rfl) (fun _ => rfl)) ?_
   iterate 5 refine rC ?_
   refine nQ ?_;refine sR ?_;iterate 2 refine rC ?_
   refine nS ?_;refine wG ?_;refine kS ?_;refine qR ?_;refine rC ?_;refine rQ iE ?_;iterate 2 refine rC ?_
   iterate 4 refine rS ?_
   refine rQ iF ?_;refine nS ?_;refine wG ?_;refine kS ?_;refine qR ?_;refine rC ?_;refine rQ iE ?_;iterate 2 refine rC ?_
   iterate 4 refine rS ?_
   refine rQ iF ?_;refine nS ?_;refine wG ?_;refine kS ?_;refine qR ?_;refine rC ?_;refine rQ iE ?_;iterate 2 refine rC ?_
   iterate 4 refine rS ?_
   refine rQ iF ?_;refine nS ?_;refine wG ?_;refine kS ?_;refine qR ?_;refine rC ?_;refine rQ iE ?_;iterate 2 refine rC ?_
   iterate 4 refine rS ?_
   refine rQ iF ?_;refine nS ?_;refine wG ?_;refine kS ?_;refine sR ?_;refine rQ iS ?_;refine rW ?_;refine rC ?_;refine nS ?_;refine wc_ret ?_
   exact ⟨trivial, _, rfl, [], .of rfl rfl rfl rfl rfl ⟨⟨_, rfl, AVLe.tup1 (act_le _ _ _ _) rfl⟩, rfl, trivial⟩ trivial⟩
abbrev hdW : List (List UInt8) := [sVolume, sNonces, sFlaw, sMaster, sPrograms]
abbrev hdM : List Int := [5, 3, 2, 2, 1]
abbrev hdB : List Int := [31, 64, 8]
abbrev RhIs (i : Nat) (t : List UInt8) (c : SCfg) (c' : SCfg) (b : Bool) : Prop := FnIs Tryz.prog 42 [.int .i64 i, .d (strD t), .d (encCfg c)] [] (.tup (.acons (.d (encCfg c')) (.acons (.bool b) .anil))) []
def nums (B : Nat) (ws : List (List UInt8)) : List Int := ws.map fun w => (((numS B w).getD 0 : Nat) : Int)
theorem nums_app (B : Nat) (a b : List (List UInt8)) : nums B (a ++ b) = nums B a ++ nums B b := List.map_append
theorem nums_len (B : Nat) (a : List (List UInt8)) : (nums B a).length = a.length := List.length_map _
def updH (i : Nat) (c : SCfg) (l : List Int) : SCfg :=
 if i = 0 then { c with blocks := l.getD 0 0, shards := l.getD 1 0, frames := l.getD 2 0, clients := l.getD 3 0 }
 else if i = 1 then { c with limit := l.getD 0 0, reserve := l.getD 1 0 } else { c with flaw := l.getD 0 0 }
theorem nums_lt {B : Nat} {ws : List (List UInt8)} {w : List UInt8} (h : w ∈ ws) (hall : ∀ w ∈ ws, (numS B w).isSome = true) : (numS B w).getD 0 < 2 ^ B := by
 have := hall w h
 cases hn : numS B w with
 | none => rw [hn] at this; cases this
 | some u => exact numS_lt hn
theorem rhead_bad (i : Nat) (hi : i < 5) (t : List UInt8) (c : SCfg) (ht : t.length ≤ 1048575) (v wd : List UInt8) (m : Int) (hM : hdM[((i : Int)).toNat]? = some m) (hW : hdW[((i : Int)).toNat]? = some wd) (g0 : (splitL t 32)[((0 : Int)).toNat]? = some v) (h : ¬ (((splitL t 32).length : Int) = m ∧ v = wd)) : RhIs i t c c false := by
 have hct := rcut34_is t 32 ht
 obtain ⟨ws, hws⟩ : ∃ ws, splitL t 32 = ws := ⟨_, rfl⟩
 rw [hws] at hct g0 h
 refine fnIs_of tab_ok Tryz.func42 rfl rfl rfl ?_
 by_cases h1 : (ws.length : Int) = m
 ·have d1 : (!decide ((ws.length : Int) = m)) = false := by rw [dT h1]; rfl
  have d2 : (!decide (v = wd)) = true := by rw [dF (fun e => h ⟨h1, e⟩)]; rfl
  refine sR ?_;iterate 2 refine rN ?_
  refine rC ?_;refine nR ?_;refine rC ?_;refine rQ (call_r hct rfl rfl (arg_e (arg_e arg_nil)) (.inl rfl) (fun _ => rfl)) ?_;refine rC ?_;refine nR ?_;refine rQ (StepIs.frozen (build_slice (s := 1) tab_ok rfl rfl rfl rfl rfl rfl rfl rfl) (Frz.litsN (enc := strD) hdW rfl (fun _ _ => rfl))) ?_
  refine rC ?_;refine nR ?_;refine rQ (StepIs.frozen (build_slice (s := 1) tab_ok rfl rfl rfl rfl rfl rfl rfl rfl) (Frz.litsN (enc := i6) hdM rfl (fun _ _ => rfl))) ?_
  refine rC ?_;refine nQ ?_;refine wc_seq ?_;refine wc_draw (by kernel_rfl) ?_;refine dC [8] [] ?_;refine dQ [23] [] iE ?_;refine dC [10] [] ?_;refine dC [0] [] ?_
  refine dQ [25, 26] [] (index_arr tab_ok rfl rfl rfl rfl rfl (by omega) hM) ?_;refine dQ [27] [] iL ?_;refine dC [24, 28] [] ?_;refine dC [29] [] ?_;refine dreg_onq [30, 8] [] rfl rfl (by assumption) rfl (step_C tab_ok (fun K hk => hk)) ?_
  refine dreg_onq [30, 31] [] rfl rfl (by assumption) rfl (index_arr tab_ok rfl rfl rfl rfl rfl (by decide) g0) ?_;refine dreg_onq [30, 32] [] rfl rfl (by assumption) rfl (load_i tab_ok rfl rfl) ?_
  refine dreg_onq [30, 9] [] rfl rfl (by assumption) rfl (step_C tab_ok (fun K hk => hk)) ?_;refine dreg_onq [30, 0] [] rfl rfl (by assumption) rfl (step_C tab_ok (fun K hk => hk)) ?_
  refine dreg_onq [30, 34, 35] [] rfl rfl (by assumption) rfl (index_arr tab_ok rfl rfl rfl rfl rfl (by omega) hW) ?_;refine dreg_onq [30, 36] [] rfl rfl (by assumption) rfl (load_i tab_ok rfl rfl) ?_
  refine dreg_onq [30, 33, 37] [] rfl rfl (by assumption) rfl (neq_s (a := v) (b := wd) tab_ok rfl rfl rfl) ?_;refine dQ [30, 38] [] iF ?_;refine dreg_end (by kernel_rfl) ?_
  refine seq_n ?_;refine wT ?_;refine sR ?_;refine rQ iM ?_;refine rW ?_;refine rC ?_;refine nS ?_;refine wc_ret ?_;refine seq_r ?_
  exact ⟨trivial, _, rfl, [], lf⟩
 ·have d1 : (!decide ((ws.length : Int) = m)) = true := by rw [dF h1]; rfl
  refine sR ?_;iterate 2 refine rN ?_
  refine rC ?_;refine nR ?_;refine rC ?_;refine rQ (call_r hct rfl rfl (arg_e (arg_e arg_nil)) (.inl rfl) (fun _ => rfl)) ?_;refine rC ?_;refine nR ?_;refine rQ (StepIs.frozen (build_slice (s := 1) tab_ok rfl rfl rfl rfl rfl rfl rfl rfl) (Frz.litsN (enc := strD) hdW rfl (fun _ _ => rfl))) ?_
  refine rC ?_;refine nR ?_;refine rQ (StepIs.frozen (build_slice (s := 1) tab_ok rfl rfl rfl rfl rfl rfl rfl rfl) (Frz.litsN (enc := i6) hdM rfl (fun _ _ => rfl))) ?_
  refine rC ?_;refine nQ ?_;refine wc_seq ?_;refine wc_draw (by kernel_rfl) ?_;refine dC [8] [] ?_;refine dQ [23] [] iE ?_;refine dC [10] [] ?_;refine dC [0] [] ?_
  refine dQ [25, 26] [] (index_arr tab_ok rfl rfl rfl rfl rfl (by omega) hM) ?_;refine dQ [27] [] iL ?_;refine dC [24, 28] [] ?_;refine dC [29] [] ?_;refine dreg_offq [30, 8] rfl rfl (by assumption) rfl ?_
  refine dreg_offq [30, 31] rfl rfl (by assumption) rfl ?_;refine dreg_offq [30, 32] rfl rfl (by assumption) rfl ?_;refine dreg_offq [30, 9] rfl rfl (by assumption) rfl ?_
  refine dreg_offq [30, 0] rfl rfl (by assumption) rfl ?_;refine dreg_offq [30, 34, 35] rfl rfl (by assumption) rfl ?_;refine dreg_offq [30, 36] rfl rfl (by assumption) rfl ?_
  refine dreg_offq [30, 33, 37] rfl rfl (by assumption) rfl ?_;refine dQ [30, 38] [] iT ?_;refine dreg_end (by kernel_rfl) ?_;refine seq_n ?_;refine wV ?_;refine sR ?_
  refine rQ iM ?_;refine rW ?_;refine rC ?_;refine nS ?_;refine wc_ret ?_;refine seq_r ?_
  exact ⟨trivial, _, rfl, [], lf⟩
theorem rhead_num (i : Nat) (hi : i < 3) (t : List UInt8) (c c' : SCfg) (b : Bool) (ht : t.length ≤ 1048575) (v wd : List UInt8) (m B : Nat) (hM : hdM[((i : Int)).toNat]? = some (m : Int)) (hW : hdW[((i : Int)).toNat]? = some wd) (hB2 : hdB[((i : Int)).toNat]? = some (B : Int)) (hBB : B ≤ 64) (g0 : (splitL t 32)[((0 : Int)).toNat]? = some v) (h1 : (splitL t 32).length = m) (h2 : v = wd)
  (hbad : ¬ (∀ w ∈ (splitL t 32).drop 1, (numS B w).isSome = true) → c' = c ∧ b = false) (hgood : (∀ w ∈ (splitL t 32).drop 1, (numS B w).isSome = true) → c' = updH i c (nums B ((splitL t 32).drop 1)) ∧ b = true) : RhIs i t c c' b := by
 have hct := rcut34_is t 32 ht
 obtain ⟨ws, hws⟩ : ∃ ws, splitL t 32 = ws := ⟨_, rfl⟩
 rw [hws] at hct g0 h1 hbad hgood
 have hm6 : 1 ≤ m ∧ m ≤ 5 := by
  match i, hi, hM with
  | 0, _, hM => have := Option.some.inj hM; omega
  | 1, _, hM => have := Option.some.inj hM; omega
  | 2, _, hM => have := Option.some.inj hM; omega
 refine fnIs_of tab_ok Tryz.func42 rfl rfl rfl ?_
 have d1 : (!decide ((ws.length : Int) = (m : Int))) = false := by rw [dT (by omega)]; rfl
 have d2 : (!decide (v = wd)) = false := by rw [dT h2]; rfl
 have d3 : decide ((i : Int) < 3) = true := dT (by omega)
 refine sR ?_;iterate 2 refine rN ?_
 refine rC ?_;refine nR ?_;refine rC ?_;refine rQ (call_r hct rfl rfl (arg_e (arg_e arg_nil)) (.inl rfl) (fun _ => rfl)) ?_;refine rC ?_;refine nR ?_;refine rQ (StepIs.frozen (build_slice (s := 1) tab_ok rfl rfl rfl rfl rfl rfl rfl rfl) (Frz.litsN (enc := strD) hdW rfl (fun _ _ => rfl))) ?_
 refine rC ?_;refine nR ?_;refine rQ (StepIs.frozen (build_slice (s := 1) tab_ok rfl rfl rfl rfl rfl rfl rfl rfl) (Frz.litsN (enc := i6) hdM rfl (fun _ _ => rfl))) ?_
 refine rC ?_;refine nQ ?_;refine wc_seq ?_;refine wc_draw (by kernel_rfl) ?_;refine dC [8] [] ?_;refine dQ [23] [] iE ?_;refine dC [10] [] ?_;refine dC [0] [] ?_
 refine dQ [25, 26] [] (index_arr tab_ok rfl rfl rfl rfl rfl (by omega) hM) ?_;refine dQ [27] [] iL ?_;refine dC [24, 28] [] ?_;refine dC [29] [] ?_;refine dreg_onq [30, 8] [] rfl rfl (by assumption) rfl (step_C tab_ok (fun K hk => hk)) ?_
 refine dreg_onq [30, 31] [] rfl rfl (by assumption) rfl (index_arr tab_ok rfl rfl rfl rfl rfl (by decide) g0) ?_;refine dreg_onq [30, 32] [] rfl rfl (by assumption) rfl (load_i tab_ok rfl rfl) ?_
 refine dreg_onq [30, 9] [] rfl rfl (by assumption) rfl (step_C tab_ok (fun K hk => hk)) ?_;refine dreg_onq [30, 0] [] rfl rfl (by assumption) rfl (step_C tab_ok (fun K hk => hk)) ?_
 refine dreg_onq [30, 34, 35] [] rfl rfl (by assumption) rfl (index_arr tab_ok rfl rfl rfl rfl rfl (by omega) hW) ?_;refine dreg_onq [30, 36] [] rfl rfl (by assumption) rfl (load_i tab_ok rfl rfl) ?_
 refine dreg_onq [30, 33, 37] [] rfl rfl (by assumption) rfl (neq_s (a := v) (b := wd) tab_ok rfl rfl rfl) ?_;refine dQ [30, 38] [] iF ?_;refine dreg_end (by kernel_rfl) ?_
 refine seq_n ?_;refine wF ?_;refine kS ?_;refine sR ?_;refine rQ (StepIs.frozen (build_slice (s := 1) tab_ok rfl rfl rfl rfl rfl rfl rfl rfl) (Frz.litsN (enc := i6) hdB rfl (fun _ _ => rfl))) ?_
 refine rC ?_;refine nR ?_;refine rC ?_;refine nQ ?_;refine sR ?_;refine rC ?_;refine nS ?_;refine wc_block ?_
 refine wc_inv (fun k : Nat => ⟨[(13, .int .i64 k), (12, .own 66 0 (nums B ((ws.drop 1).take (k - 1))).length 1 none), (11, .d (.arr 1 i6 hdB)), (8, .d (.arr 1 strD ws)), (6, .ptr 65 []), (5, .ptr 64 []), (0, .int .i64 i)], [(64, some (.box 26 (.d (encCfg c)))), (65, some (.box 26 (.d r26.zero))), (66, some (.ds 22 1 false u6 (nums B ((ws.drop 1).take (k - 1)))))], 72, Tryz.f42.ntmps, 64⟩) (fun k => 1 ≤ k ∧ k ≤ ws.length ∧ ∀ w ∈ (ws.drop 1).take (k - 1), (numS B w).isSome = true) (fun k => ws.length - k) 1 [(64, some _), (65, some _), (66, none)] ⟨Nat.le_refl _, by omega, fun w hw => by simp at hw⟩
  (.of rfl rfl rfl rfl rfl ⟨⟨_, rfl, .refl _⟩, rfl, ⟨_, rfl, .refl _⟩, rfl, ⟨_, rfl, .refl _⟩, rfl, ⟨_, rfl, .refl _⟩, rfl, ⟨_, rfl, .refl _⟩, rfl, ⟨_, rfl, .refl _⟩, rfl, ⟨_, rfl, .refl _⟩, rfl, trivial⟩ ⟨⟨rfl, rfl, _, rfl, .refl _⟩, ⟨rfl, rfl, _, rfl, .refl _⟩, ⟨rfl, rfl, rfl⟩, trivial⟩) ?_
 rintro k ⟨hk1, hk2, hall⟩
 refine wc_of ?_
 by_cases hlt : k < ws.length
 ·have d4 : decide ((k : Int) < (ws.length : Int)) = true := dT (by omega)
  obtain ⟨w, hw⟩ : ∃ w, ws[k]? = some w := ⟨_, List.getElem?_eq_getElem hlt⟩
  have hw2 : ws[((k : Int)).toNat]? = some w := by rw [Int.toNat_natCast]; exact hw
  have hwd : (ws.drop 1)[k - 1]? = some w := by rw [List.getElem?_drop, show 1 + (k - 1) = k by omega]; exact hw
  have htk : (ws.drop 1).take (k + 1 - 1) = (ws.drop 1).take (k - 1) ++ [w] := by rw [show k + 1 - 1 = (k - 1) + 1 by omega, List.take_add_one, hwd]; rfl
  obtain ⟨x, hnum, hx⟩ := rnum34_is w B hBB
  cases hn : numS B w with
  | none =>
   rw [hn] at hnum
   obtain ⟨rfl, rfl⟩ := hbad fun h => by
    have := h w (List.mem_of_getElem? hwd)
    rw [hn] at this; cases this
   refine qR ?_;iterate 2 refine rC ?_
   refine rQ iE ?_;iterate 2 refine rC ?_
   refine rO ?_;refine rC ?_;refine rO ?_;refine rC ?_;refine rQ iT ?_;refine nS ?_;refine wT ?_;refine kS ?_;refine wc_seq ?_;refine wc_block ?_;refine wc_seq ?_;refine wc_draw (by kernel_rfl) ?_
   refine dC [8] [] ?_;refine dC [13] [] ?_;refine dQ [53, 54] [] (index_arr tab_ok rfl rfl rfl rfl rfl (by omega) hw2) ?_;refine dQ [55] [] iL ?_;refine dC [11] [] ?_
   refine dC [0] [] ?_;refine dQ [57, 58] [] (index_arr tab_ok rfl rfl rfl rfl rfl (by omega) hB2) ?_;refine dQ [59] [] iL ?_;refine dQ [56, 60] [] (call_r hnum rfl rfl (arg_e (arg_e arg_nil)) (.inl rfl) (fun _ => rfl)) ?_
   refine dC [61] [] ?_;iterate 2 refine dC [52] [] ?_
   refine dC [62] [] ?_;refine dC [63] [] ?_;refine dreg_end (by kernel_rfl) ?_;refine seq_n ?_;refine qR ?_;iterate 2 refine rC ?_
   refine nS ?_;refine wV ?_;refine sR ?_;refine rQ iM ?_;refine rW ?_;refine rC ?_;refine nS ?_;refine wc_ret ?_;refine seq_r ?_;refine blk_r ?_;refine seq_r ?_;refine loop_r ?_
   refine blk_r ?_;refine seq_r ?_
   exact ⟨trivial, _, rfl, [], lf⟩
  | some u =>
   obtain rfl := hx u hn
   rw [hn] at hnum
   have hnx : nums B ((ws.drop 1).take (k + 1 - 1)) = nums B ((ws.drop 1).take (k - 1)) ++ [(u : Int)] := by rw [htk, nums_app]; simp [nums, hn]
   have hln : (nums B ((ws.drop 1).take (k - 1))).length + 1 = (nums B ((ws.drop 1).take (k + 1 - 1))).length := by rw [hnx]; simp
   have hA : (nums B ((ws.drop 1).take (k - 1))).length + 1 ≤ 1048576 := by rw [nums_len, List.length_take]; omega
   refine qR ?_;iterate 2 refine rC ?_
   refine rQ iE ?_;iterate 2 refine rC ?_
   refine rO ?_;refine rC ?_;refine rO ?_;refine rC ?_;refine rQ iT ?_;refine nS ?_;refine wT ?_;refine kS ?_;refine wc_seq ?_;refine wc_block ?_;refine wc_seq ?_;refine wc_draw (by kernel_rfl) ?_
   refine dC [8] [] ?_;refine dC [13] [] ?_;refine dQ [53, 54] [] (index_arr tab_ok rfl rfl rfl rfl rfl (by omega) hw2) ?_;refine dQ [55] [] iL ?_;refine dC [11] [] ?_
   refine dC [0] [] ?_;refine dQ [57, 58] [] (index_arr tab_ok rfl rfl rfl rfl rfl (by omega) hB2) ?_;refine dQ [59] [] iL ?_;refine dQ [56, 60] [] (call_r hnum rfl rfl (arg_e (arg_e arg_nil)) (.inl rfl) (fun _ => rfl)) ?_
   refine dC [61] [] ?_;iterate 2 refine dC [52] [] ?_
   refine dC [62] [] ?_;refine dC [63] [] ?_;refine dreg_end (by kernel_rfl) ?_;refine seq_n ?_;refine qR ?_;iterate 2 refine rC ?_
   refine nS ?_;refine wG ?_;refine kS ?_;refine wc_region ?_;iterate 2 refine rC ?_
   refine reg_new (build_slice (s := 1) tab_ok rfl rfl rfl rfl rfl rfl rfl rfl) rfl ?_;refine reg_new2 (append_one (xs := nums B ((ws.drop 1).take (k - 1))) (s := 1) (enc := u6) tab_ok (u : Int) rfl rfl rfl rfl rfl rfl rfl rfl rfl hA rfl) rfl ?_
   refine rC ?_;refine reg_nil ?_;refine blk_n ?_;refine seq_n ?_;refine wc_region ?_;refine rC ?_;refine rQ iD ?_;refine rC ?_;refine reg_nil ?_
   exact loop_n (k + 1) [(64, some _), (65, some _), (66, some _)] ⟨by omega, hlt, fun y hy => by
    rw [htk] at hy
    rcases List.mem_append.1 hy with h | h
    ·exact hall y h
    ·obtain rfl := List.mem_singleton.1 h
     rw [hn]; rfl⟩ (by omega) (.of rfl rfl rfl rfl rfl ⟨⟨_, rfl, .refl _⟩, rfl, ⟨_, rfl, AVLe.of_eq (by rw [← hln]; rfl)⟩, rfl, ⟨_, rfl, .refl _⟩, rfl, ⟨_, rfl, .refl _⟩, rfl, ⟨_, rfl, .refl _⟩, rfl, ⟨_, rfl, .refl _⟩, rfl, ⟨_, rfl, .refl _⟩, rfl, trivial⟩ ⟨⟨rfl, rfl, _, rfl, .refl _⟩, ⟨rfl, rfl, _, rfl, .refl _⟩, ⟨rfl, rfl, _, rfl, RowLe.of_eq (by rw [hnx]; rfl)⟩, trivial⟩)
 ·have he : k = ws.length := by omega
  subst he
  have d4 : decide ((ws.length : Int) < (ws.length : Int)) = false := dF (by omega)
  have hfull : (ws.drop 1).take (ws.length - 1) = ws.drop 1 := List.take_of_length_le (by rw [List.length_drop]; omega)
  rw [hfull] at hall ⊢
  obtain ⟨rfl, rfl⟩ := hgood hall
  have hlq := fun w (h : w ∈ ws.drop 1) => nums_lt h hall
  clear hbad hgood
  match i, hi, hM, hB2, d3 with
  | 0, _, hM, hB2, d3 =>
   obtain rfl : 5 = m := by have := Option.some.inj hM; omega
   obtain rfl : 31 = B := by have := Option.some.inj hB2; omega
   obtain ⟨w0, w1, w2, w3, w4, hr⟩ : ∃ w0 w1 w2 w3 w4, ws = [w0, w1, w2, w3, w4] := by
    match ws, h1 with
    | [w0, w1, w2, w3, w4], _ => exact ⟨_, _, _, _, _, rfl⟩
   subst hr
   have hlt0 := hlq w1 (by simp)
   obtain ⟨n0, hn0⟩ : ∃ n : Int, (((numS 31 w1).getD 0 : Nat) : Int) = n := ⟨_, rfl⟩
   have hc0 : IntKind.i64.wrap n0 = n0 := wrap_i64 (by omega) (by omega)
   have hlt1 := hlq w2 (by simp)
   obtain ⟨n1, hn1⟩ : ∃ n : Int, (((numS 31 w2).getD 0 : Nat) : Int) = n := ⟨_, rfl⟩
   have hc1 : IntKind.i64.wrap n1 = n1 := wrap_i64 (by omega) (by omega)
   have hlt2 := hlq w3 (by simp)
   obtain ⟨n2, hn2⟩ : ∃ n : Int, (((numS 31 w3).getD 0 : Nat) : Int) = n := ⟨_, rfl⟩
   have hc2 : IntKind.i64.wrap n2 = n2 := wrap_i64 (by omega) (by omega)
   have hlt3 := hlq w4 (by simp)
   obtain ⟨n3, hn3⟩ : ∃ n : Int, (((numS 31 w4).getD 0 : Nat) : Int) = n := ⟨_, rfl⟩
   have hc3 : IntKind.i64.wrap n3 = n3 := wrap_i64 (by omega) (by omega)
   have hns : nums 31 (List.drop 1 [w0, w1, w2, w3, w4]) = [n0, n1, n2, n3] := by simp only [List.drop_succ_cons, List.drop_zero, nums, List.map_cons, List.map_nil, hn0, hn1, hn2, hn3]
   rw [hns]
   have z0 : decide (((0 : Nat) : Int) = 0) = true := rfl
   refine qR ?_;iterate 2 refine rC ?_
   refine rQ iE ?_;iterate 2 refine rC ?_
   iterate 2 refine rT ?_
   refine rQ iG ?_;refine nS ?_;refine wG ?_;refine wc_exit ?_;refine seq_x ?_;refine loop_x ?_;refine blk_x ?_;refine seq_n ?_;refine qR ?_;iterate 2 refine rC ?_
   refine nS ?_;refine wV ?_;refine wc_draw (by kernel_rfl) ?_;refine dC [12] [] ?_;refine dQ [73] [] (index_own tab_ok rfl rfl rfl rfl rfl (by decide) (by simp)) ?_
   refine dQ [74] [66] (load_row (v := .int .u64 n0) tab_ok rfl rfl ⟨rfl, n0, rfl, _, rfl, rfl⟩ rfl) ?_;refine dQ [75] [] (conv_int (m := n0) tab_ok rfl rfl rfl hc0) ?_
   refine dC [12] [] ?_;refine dQ [77] [] (index_own tab_ok rfl rfl rfl rfl rfl (by decide) (by simp)) ?_;refine dQ [78] [66] (load_row (v := .int .u64 n1) tab_ok rfl rfl ⟨rfl, n1, rfl, _, rfl, rfl⟩ rfl) ?_
   refine dQ [79] [] (conv_int (m := n1) tab_ok rfl rfl rfl hc1) ?_;refine dC [12] [] ?_;refine dQ [81] [] (index_own tab_ok rfl rfl rfl rfl rfl (by decide) (by simp)) ?_
   refine dQ [82] [66] (load_row (v := .int .u64 n2) tab_ok rfl rfl ⟨rfl, n2, rfl, _, rfl, rfl⟩ rfl) ?_;refine dQ [83] [] (conv_int (m := n2) tab_ok rfl rfl rfl hc2) ?_
   refine dC [12] [] ?_;refine dQ [85] [] (index_own tab_ok rfl rfl rfl rfl rfl (by decide) (by simp)) ?_;refine dQ [86] [66] (load_row (v := .int .u64 n3) tab_ok rfl rfl ⟨rfl, n3, rfl, _, rfl, rfl⟩ rfl) ?_
   refine dQ [87] [] (conv_int (m := n3) tab_ok rfl rfl rfl hc3) ?_;refine dC [5] [] ?_;refine dreg_s [89, 76] [64] (store_row tab_ok rfl rfl rfl ⟨_, ⟨_, ⟨_, ⟨rfl, rfl, rfl⟩, rfl⟩, rfl⟩, rfl⟩ rfl) ?_
   refine dC [5] [] ?_;refine dreg_s [90, 80] [64] (store_row tab_ok rfl rfl rfl ⟨_, ⟨_, ⟨_, ⟨rfl, rfl, rfl⟩, rfl⟩, rfl⟩, rfl⟩ rfl) ?_;refine dC [5] [] ?_;refine dreg_s [91, 84] [64] (store_row tab_ok rfl rfl rfl ⟨_, ⟨_, ⟨_, ⟨rfl, rfl, rfl⟩, rfl⟩, rfl⟩, rfl⟩ rfl) ?_
   refine dC [5] [] ?_;refine dreg_s [92, 88] [64] (store_row tab_ok rfl rfl rfl ⟨_, ⟨_, ⟨_, ⟨rfl, rfl, rfl⟩, rfl⟩, rfl⟩, rfl⟩ rfl) ?_;refine dreg_end (by kernel_rfl) ?_
   refine seq_n ?_;refine qR ?_;iterate 2 refine rC ?_
   refine nS ?_;refine wG ?_;refine kS ?_;refine qR ?_;iterate 2 refine rC ?_
   refine nS ?_;refine wG ?_;refine kS ?_;refine qR ?_;iterate 2 refine rC ?_
   refine nS ?_;refine wG ?_;refine kS ?_;refine sR ?_;refine rQ iM ?_;refine rW ?_;refine rC ?_;refine nS ?_;refine wc_ret ?_
   exact ⟨trivial, _, rfl, [], lf⟩
  | 1, _, hM, hB2, d3 =>
   obtain rfl : 3 = m := by have := Option.some.inj hM; omega
   obtain rfl : 64 = B := by have := Option.some.inj hB2; omega
   obtain ⟨w0, w1, w2, hr⟩ : ∃ w0 w1 w2, ws = [w0, w1, w2] := by
    match ws, h1 with
    | [w0, w1, w2], _ => exact ⟨_, _, _, rfl⟩
   subst hr
   have hlt0 := hlq w1 (by simp)
   obtain ⟨n0, hn0⟩ : ∃ n : Int, (((numS 64 w1).getD 0 : Nat) : Int) = n := ⟨_, rfl⟩
   have hlt1 := hlq w2 (by simp)
   obtain ⟨n1, hn1⟩ : ∃ n : Int, (((numS 64 w2).getD 0 : Nat) : Int) = n := ⟨_, rfl⟩
   have hns : nums 64 (List.drop 1 [w0, w1, w2]) = [n0, n1] := by simp only [List.drop_succ_cons, List.drop_zero, nums, List.map_cons, List.map_nil, hn0, hn1]
   rw [hns]
   have z0 : decide (((1 : Nat) : Int) = 0) = false := rfl
   have z1 : decide (((1 : Nat) : Int) = 1) = true := rfl
   refine qR ?_;iterate 2 refine rC ?_
   refine rQ iE ?_;iterate 2 refine rC ?_
   iterate 2 refine rT ?_
   refine rQ iG ?_;refine nS ?_;refine wG ?_;refine wc_exit ?_;refine seq_x ?_;refine loop_x ?_;refine blk_x ?_;refine seq_n ?_;refine qR ?_;iterate 2 refine rC ?_
   refine nS ?_;refine wG ?_;refine kS ?_;refine qR ?_;iterate 2 refine rC ?_
   refine nS ?_;refine wV ?_;refine wc_draw (by kernel_rfl) ?_;refine dC [12] [] ?_;refine dQ [95] [] (index_own tab_ok rfl rfl rfl rfl rfl (by decide) (by simp)) ?_
   refine dQ [96] [66] (load_row (v := .int .u64 n0) tab_ok rfl rfl ⟨rfl, n0, rfl, _, rfl, rfl⟩ rfl) ?_;refine dC [12] [] ?_;refine dQ [98] [] (index_own tab_ok rfl rfl rfl rfl rfl (by decide) (by simp)) ?_
   refine dQ [99] [66] (load_row (v := .int .u64 n1) tab_ok rfl rfl ⟨rfl, n1, rfl, _, rfl, rfl⟩ rfl) ?_;refine dC [5] [] ?_;refine dreg_s [101, 97] [64] (store_row tab_ok rfl rfl rfl ⟨_, ⟨_, ⟨_, ⟨rfl, rfl, rfl⟩, rfl⟩, rfl⟩, rfl⟩ rfl) ?_
   refine dC [5] [] ?_;refine dreg_s [102, 100] [64] (store_row tab_ok rfl rfl rfl ⟨_, ⟨_, ⟨_, ⟨rfl, rfl, rfl⟩, rfl⟩, rfl⟩, rfl⟩ rfl) ?_;refine dreg_end (by kernel_rfl) ?_
   refine seq_n ?_;refine qR ?_;iterate 2 refine rC ?_
   refine nS ?_;refine wG ?_;refine kS ?_;refine qR ?_;iterate 2 refine rC ?_
   refine nS ?_;refine wG ?_;refine kS ?_;refine sR ?_;refine rQ iM ?_;refine rW ?_;refine rC ?_;refine nS ?_;refine wc_ret ?_
   exact ⟨trivial, _, rfl, [], lf⟩
  | 2, _, hM, hB2, d3 =>
   obtain rfl : 2 = m := by have := Option.some.inj hM; omega
   obtain rfl : 8 = B := by have := Option.some.inj hB2; omega
   obtain ⟨w0, w1, hr⟩ : ∃ w0 w1, ws = [w0, w1] := by
    match ws, h1 with
    | [w0, w1], _ => exact ⟨_, _, rfl⟩
   subst hr
   have hlt0 := hlq w1 (by simp)
   obtain ⟨n0, hn0⟩ : ∃ n : Int, (((numS 8 w1).getD 0 : Nat) : Int) = n := ⟨_, rfl⟩
   have hc0 : IntKind.u8.wrap n0 = n0 := by rw [← hn0]; exact wrap_u8n (by omega)
   have hns : nums 8 (List.drop 1 [w0, w1]) = [n0] := by simp only [List.drop_succ_cons, List.drop_zero, nums, List.map_cons, List.map_nil, hn0]
   rw [hns]
   have z0 : decide (((2 : Nat) : Int) = 0) = false := rfl
   have z1 : decide (((2 : Nat) : Int) = 1) = false := rfl
   have z2 : decide (((2 : Nat) : Int) = 2) = true := rfl
   refine qR ?_;iterate 2 refine rC ?_
   refine rQ iE ?_;iterate 2 refine rC ?_
   iterate 2 refine rT ?_
   refine rQ iG ?_;refine nS ?_;refine wG ?_;refine wc_exit ?_;refine seq_x ?_;refine loop_x ?_;refine blk_x ?_;refine seq_n ?_;refine qR ?_;iterate 2 refine rC ?_
   refine nS ?_;refine wG ?_;refine kS ?_;refine qR ?_;iterate 2 refine rC ?_
   refine nS ?_;refine wG ?_;refine kS ?_;refine qR ?_;iterate 2 refine rC ?_
   refine nS ?_;refine wV ?_;refine wc_region ?_;refine rC ?_;refine rQ (index_own tab_ok rfl rfl rfl rfl rfl (by decide) (by simp)) ?_;refine rQ (load_row (v := .int .u64 n0) tab_ok rfl rfl ⟨rfl, n0, rfl, _, rfl, rfl⟩ rfl) ?_
   refine rQ (conv_int (m := n0) tab_ok rfl rfl rfl hc0) ?_;refine rC ?_;refine rX ?_;refine nQ ?_;refine sR ?_;iterate 2 refine rC ?_
   refine nS ?_;refine wG ?_;refine kS ?_;refine sR ?_;refine rQ iM ?_;refine rW ?_;refine rC ?_;refine nS ?_;refine wc_ret ?_
   exact ⟨trivial, _, rfl, [], lf⟩
theorem rhead_34 (i : Nat) (hi : i = 3 ∨ i = 4) (t : List UInt8) (c c' : SCfg) (b : Bool) (hmas : c.master.length = 32) (ht : t.length ≤ 1048575) (v wd : List UInt8) (m : Nat) (hM : hdM[((i : Int)).toNat]? = some (m : Int)) (hW : hdW[((i : Int)).toNat]? = some wd) (g0 : (splitL t 32)[((0 : Int)).toNat]? = some v) (h1 : (splitL t 32).length = m) (h2 : v = wd) (a : List UInt8) (ha : i = 3 → (splitL t 32)[1]? = some a)
  (h4 : i = 4 → c' = c ∧ b = true) (h3 : i = 3 → (match unhexP a with | some d => if d.length = 32 then c' = { c with master := d } ∧ b = true else c' = c ∧ b = false | none => c' = c ∧ b = false)) : RhIs i t c c' b := by
 have hct := rcut34_is t 32 ht
 obtain ⟨ws, hws⟩ : ∃ ws, splitL t 32 = ws := ⟨_, rfl⟩
 have hmem : ∀ w ∈ ws, w.length ≤ t.length := fun w hw => split_mem_le t 32 w (by rw [hws]; exact hw)
 rw [hws] at hct g0 h1 ha
 have hm2 : m ≤ 2 := by
  rcases hi with rfl | rfl
  ·have := Option.some.inj hM; omega
  ·have := Option.some.inj hM; omega
 refine fnIs_of tab_ok Tryz.func42 rfl rfl rfl ?_
 have d1 : (!decide ((ws.length : Int) = (m : Int))) = false := by rw [dT (by omega)]; rfl
 have d2 : (!decide (v = wd)) = false := by rw [dT h2]; rfl
 have d3 : decide ((i : Int) < 3) = false := dF (by omega)
 have z0 : decide ((i : Int) = 0) = false := dF (by omega)
 have z1 : decide ((i : Int) = 1) = false := dF (by omega)
 have z2 : decide ((i : Int) = 2) = false := dF (by omega)
 have hul : i < 5 := by omega
 refine sR ?_;iterate 2 refine rN ?_
 refine rC ?_;refine nR ?_;refine rC ?_;refine rQ (call_r hct rfl rfl (arg_e (arg_e arg_nil)) (.inl rfl) (fun _ => rfl)) ?_;refine rC ?_;refine nR ?_;refine rQ (StepIs.frozen (build_slice (s := 1) tab_ok rfl rfl rfl rfl rfl rfl rfl rfl) (Frz.litsN (enc := strD) hdW rfl (fun _ _ => rfl))) ?_
 refine rC ?_;refine nR ?_;refine rQ (StepIs.frozen (build_slice (s := 1) tab_ok rfl rfl rfl rfl rfl rfl rfl rfl) (Frz.litsN (enc := i6) hdM rfl (fun _ _ => rfl))) ?_
 refine rC ?_;refine nQ ?_;refine wc_seq ?_;refine wc_draw (by kernel_rfl) ?_;refine dC [8] [] ?_;refine dQ [23] [] iE ?_;refine dC [10] [] ?_;refine dC [0] [] ?_
 refine dQ [25, 26] [] (index_arr tab_ok rfl rfl rfl rfl rfl (by omega) hM) ?_;refine dQ [27] [] iL ?_;refine dC [24, 28] [] ?_;refine dC [29] [] ?_;refine dreg_onq [30, 8] [] rfl rfl (by assumption) rfl (step_C tab_ok (fun K hk => hk)) ?_
 refine dreg_onq [30, 31] [] rfl rfl (by assumption) rfl (index_arr tab_ok rfl rfl rfl rfl rfl (by decide) g0) ?_;refine dreg_onq [30, 32] [] rfl rfl (by assumption) rfl (load_i tab_ok rfl rfl) ?_
 refine dreg_onq [30, 9] [] rfl rfl (by assumption) rfl (step_C tab_ok (fun K hk => hk)) ?_;refine dreg_onq [30, 0] [] rfl rfl (by assumption) rfl (step_C tab_ok (fun K hk => hk)) ?_
 refine dreg_onq [30, 34, 35] [] rfl rfl (by assumption) rfl (index_arr tab_ok rfl rfl rfl rfl rfl (by omega) hW) ?_;refine dreg_onq [30, 36] [] rfl rfl (by assumption) rfl (load_i tab_ok rfl rfl) ?_
 refine dreg_onq [30, 33, 37] [] rfl rfl (by assumption) rfl (neq_s (a := v) (b := wd) tab_ok rfl rfl rfl) ?_;refine dQ [30, 38] [] iF ?_;refine dreg_end (by kernel_rfl) ?_
 refine seq_n ?_;refine wF ?_;refine kS ?_;refine sR ?_;refine rQ (StepIs.frozen (build_slice (s := 1) tab_ok rfl rfl rfl rfl rfl rfl rfl rfl) (Frz.litsN (enc := i6) hdB rfl (fun _ _ => rfl))) ?_
 refine rC ?_;refine nR ?_;refine rC ?_;refine nQ ?_;refine sR ?_;refine rC ?_;refine nS ?_;refine wc_block ?_
 refine wc_inv (fun _ : Unit => ⟨[(13, .int .i64 1), (8, .d (.arr 1 strD ws)), (6, .ptr 65 []), (5, .ptr 64 []), (0, .int .i64 i)], [(64, some (.box 26 (.d (encCfg c)))), (65, some (.box 26 (.d r26.zero)))], 72, Tryz.f42.ntmps, 64⟩) (fun _ => True) (fun _ => 0) () [(64, some _), (65, some _)] trivial
  (.of rfl rfl rfl rfl rfl ⟨⟨_, rfl, .refl _⟩, rfl, ⟨_, rfl, .refl _⟩, rfl, ⟨_, rfl, .refl _⟩, rfl, ⟨_, rfl, .refl _⟩, rfl, ⟨_, rfl, .refl _⟩, rfl, trivial⟩ ⟨⟨rfl, rfl, _, rfl, .refl _⟩, ⟨rfl, rfl, _, rfl, .refl _⟩, trivial⟩) ?_
 rintro ⟨⟩ _
 refine wc_of ?_
 rcases hi with rfl | rfl
 ·have d4 : decide ((1 : Int) < (ws.length : Int)) = true := dT (by have := Option.some.inj hM; omega)
  have hg := h3 rfl
  have ha2 := ha rfl
  have g1 : ws[((1 : Int)).toNat]? = some a := ha2
  have z3 : decide (((3 : Nat) : Int) = 3) = true := rfl
  have hby := rbytes34_is a (Nat.le_trans (hmem a (List.mem_of_getElem? ha2)) ht)
  cases hu : unhexP a with
  | none =>
   rw [hu] at hg hby
   obtain ⟨rfl, rfl⟩ := hg
   refine qR ?_;iterate 2 refine rC ?_
   refine rQ iE ?_;iterate 2 refine rC ?_
   refine rO ?_;refine rC ?_;refine rO ?_;refine rC ?_;refine rQ iT ?_;refine nS ?_;refine wG ?_;refine wc_exit ?_;refine seq_x ?_;refine loop_x ?_;refine blk_x ?_
   refine seq_n ?_;refine qR ?_;iterate 2 refine rC ?_
   refine nS ?_;refine wG ?_;refine kS ?_;refine qR ?_;iterate 2 refine rC ?_
   refine nS ?_;refine wG ?_;refine kS ?_;refine qR ?_;iterate 2 refine rC ?_
   refine nS ?_;refine wG ?_;refine kS ?_;refine qR ?_;iterate 2 refine rC ?_
   refine nS ?_;refine wV ?_;refine sR ?_;refine rC ?_;refine rQ (index_arr tab_ok rfl rfl rfl rfl rfl (by decide) g1) ?_;refine rQ iL ?_;refine rQ (call_r hby rfl rfl (arg_e arg_nil) (.inl rfl) (fun _ => rfl)) ?_
   iterate 5 refine rC ?_
   refine nQ ?_;refine sR ?_;iterate 3 refine rC ?_
   iterate 3 refine rT ?_
   refine rQ iU ?_;refine nS ?_;refine wV ?_;refine sR ?_;refine rQ iM ?_;refine rW ?_;refine rC ?_;refine nS ?_;refine wc_ret ?_;iterate 2 refine seq_r ?_
   exact ⟨trivial, _, rfl, [], lf⟩
  | some d =>
   rw [hu] at hg hby
   by_cases hd : d.length = 32
   ·have e1 : (!decide (((byI d).length : Int) = 32)) = false := by rw [byI_len, dT (by omega)]; rfl
    simp only [if_pos hd] at hg
    obtain ⟨rfl, rfl⟩ := hg
    refine qR ?_;iterate 2 refine rC ?_
    refine rQ iE ?_;iterate 2 refine rC ?_
    refine rO ?_;refine rC ?_;refine rO ?_;refine rC ?_;refine rQ iT ?_;refine nS ?_;refine wG ?_;refine wc_exit ?_;refine seq_x ?_;refine loop_x ?_;refine blk_x ?_
    refine seq_n ?_;refine qR ?_;iterate 2 refine rC ?_
    refine nS ?_;refine wG ?_;refine kS ?_;refine qR ?_;iterate 2 refine rC ?_
    refine nS ?_;refine wG ?_;refine kS ?_;refine qR ?_;iterate 2 refine rC ?_
    refine nS ?_;refine wG ?_;refine kS ?_;refine qR ?_;iterate 2 refine rC ?_
    refine nS ?_;refine wV ?_;refine sR ?_;refine rC ?_;refine rQ (index_arr tab_ok rfl rfl rfl rfl rfl (by decide) g1) ?_;refine rQ iL ?_;refine rQ (call_r hby rfl rfl (arg_e arg_nil) (.inl rfl) (fun _ => rfl)) ?_
    iterate 5 refine rC ?_
    refine nQ ?_;refine sR ?_;iterate 3 refine rC ?_
    refine rP ?_;refine rC ?_;refine rP ?_;refine rQ iE ?_;refine rP ?_;refine rC ?_;refine rQ iG ?_;refine nS ?_;refine wF ?_;refine kS ?_;refine sR ?_;refine rC ?_
    refine nS ?_;refine wc_block ?_
    refine wc_inv (fun k : Nat => ⟨[(18, .int .i64 k), (16, .d (encB d)), (6, .ptr 65 []), (5, .ptr 64 [])], [(64, some (.box 26 (.d (encCfg { c with master := d.take k ++ c.master.drop k })))), (65, some (.box 26 (.d r26.zero)))], 72, Tryz.f42.ntmps, 64⟩) (fun k => k ≤ 32) (fun k => 32 - k) 0 [(64, some _), (65, some _)] (Nat.zero_le _)
     (.of rfl rfl rfl rfl rfl ⟨⟨_, rfl, .refl _⟩, rfl, ⟨_, rfl, .refl _⟩, rfl, ⟨_, rfl, .refl _⟩, rfl, ⟨_, rfl, .refl _⟩, rfl, trivial⟩ ⟨⟨rfl, rfl, _, rfl, .refl _⟩, ⟨rfl, rfl, _, rfl, .refl _⟩, trivial⟩) ?_
    intro k hk
    refine wc_of ?_
    by_cases hlt : k < 32
    ·have d5 : decide ((k : Int) < 32) = true := dT (by omega)
     obtain ⟨y, hy⟩ : ∃ y, d[k]? = some y := ⟨_, List.getElem?_eq_getElem (by omega)⟩
     obtain ⟨z, hz⟩ : ∃ z, c.master[k]? = some z := ⟨_, List.getElem?_eq_getElem (by omega)⟩
     have hbl : (byI d).length = d.length := byI_len d
     have hd2 : (byI d)[((k : Int)).toNat]? = some ((y.toNat : Nat) : Int) := by rw [Int.toNat_natCast]; exact byI_get hy
     obtain ⟨e0, he0⟩ : ∃ e0 : Int, ((z.toNat : Nat) : Int) = e0 := ⟨_, rfl⟩
     have htl : (d.take k).length = k := by rw [List.length_take]; omega
     have hgm : (d.take k ++ c.master.drop k)[k]? = some z := by rw [List.getElem?_append_right (by omega), htl, Nat.sub_self, List.getElem?_drop, Nat.add_zero]; exact hz
     have hget : (byI (d.take k ++ c.master.drop k))[((k : Int)).toNat]? = some e0 := by rw [Int.toNat_natCast, ← he0]; exact byI_get hgm
     have hset : (byI (d.take k ++ c.master.drop k)).set ((k : Int)).toNat ((y.toNat : Nat) : Int) = byI (d.take (k + 1) ++ c.master.drop (k + 1)) := by
      rw [Int.toNat_natCast, byI, byI, ← List.map_set, List.set_append_right _ _ (by omega), htl, Nat.sub_self, List.drop_eq_getElem_cons (by omega : k < c.master.length), List.set_cons_zero, List.take_add_one, hy]
      simp
     refine qR ?_;iterate 2 refine rC ?_
     refine nS ?_;refine wT ?_;refine kS ?_;refine wc_seq ?_;refine wc_block ?_;refine wc_region ?_;iterate 3 refine rC ?_
     refine rQ (index_arr tab_ok rfl rfl rfl rfl rfl (by omega) hd2) ?_;refine rQ iL ?_;refine rC ?_;refine rQ (step_C tab_ok (fun K hk => ⟨by omega, by omega, hk⟩)) ?_
     refine reg_store (store_row tab_ok rfl rfl rfl ⟨_, ⟨_, ⟨_, ⟨rfl, (e0 : Int), ((y.toNat : Nat) : Int), hget, ⟨rfl, rfl, rfl⟩, rfl⟩, rfl⟩, rfl⟩, rfl⟩ rfl) ?_;refine reg_nil ?_
     refine blk_n ?_;refine seq_n ?_;refine wc_region ?_;refine rC ?_;refine rQ iD ?_;refine rC ?_;refine reg_nil ?_
     exact loop_n (k + 1) [(64, some _), (65, some _)] hlt (by omega) (.of rfl rfl rfl rfl rfl ⟨⟨_, rfl, .refl _⟩, rfl, ⟨_, rfl, .refl _⟩, rfl, ⟨_, rfl, .refl _⟩, rfl, ⟨_, rfl, .refl _⟩, rfl, trivial⟩ ⟨⟨rfl, rfl, _, rfl, RowLe.of_eq (congrArg (fun q => Row.box 26 (.d (.cons (i6 c.blocks) (.cons (i6 c.shards) (.cons (i6 c.frames) (.cons (i6 c.clients) (.cons (u6 c.limit) (.cons (u6 c.reserve) (.cons (.vec 32 1 encU8 q) (.cons (u8s c.flaw) .nil)))))))))) hset)⟩, ⟨rfl, rfl, _, rfl, .refl _⟩, trivial⟩)
    ·have he : k = 32 := by omega
     subst he
     have d5 : decide (((32 : Nat) : Int) < 32) = false := rfl
     have hfin : d.take 32 ++ c.master.drop 32 = d := by rw [List.take_of_length_le (by omega), List.drop_of_length_le (by omega), List.append_nil]
     rw [hfin]
     refine qR ?_;iterate 2 refine rC ?_
     refine nS ?_;refine wG ?_;refine wc_exit ?_;refine seq_x ?_;refine loop_x ?_;refine blk_x ?_;refine seq_n ?_;refine sR ?_;refine rQ iM ?_;refine rW ?_;refine rC ?_
     refine nS ?_;refine wc_ret ?_
     exact ⟨trivial, _, rfl, [], lf⟩
   ·have e1 : (!decide (((byI d).length : Int) = 32)) = true := by rw [byI_len, dF (by omega)]; rfl
    simp only [if_neg hd] at hg
    obtain ⟨rfl, rfl⟩ := hg
    refine qR ?_;iterate 2 refine rC ?_
    refine rQ iE ?_;iterate 2 refine rC ?_
    refine rO ?_;refine rC ?_;refine rO ?_;refine rC ?_;refine rQ iT ?_;refine nS ?_;refine wG ?_;refine wc_exit ?_;refine seq_x ?_;refine loop_x ?_;refine blk_x ?_
    refine seq_n ?_;refine qR ?_;iterate 2 refine rC ?_
    refine nS ?_;refine wG ?_;refine kS ?_;refine qR ?_;iterate 2 refine rC ?_
    refine nS ?_;refine wG ?_;refine kS ?_;refine qR ?_;iterate 2 refine rC ?_
    refine nS ?_;refine wG ?_;refine kS ?_;refine qR ?_;iterate 2 refine rC ?_
    refine nS ?_;refine wV ?_;refine sR ?_;refine rC ?_;refine rQ (index_arr tab_ok rfl rfl rfl rfl rfl (by decide) g1) ?_;refine rQ iL ?_;refine rQ (call_r hby rfl rfl (arg_e arg_nil) (.inl rfl) (fun _ => rfl)) ?_
    iterate 5 refine rC ?_
    refine nQ ?_;refine sR ?_;iterate 3 refine rC ?_
    refine rP ?_;refine rC ?_;refine rP ?_;refine rQ iE ?_;refine rP ?_;refine rC ?_;refine rQ iG ?_;refine nS ?_;refine wT ?_;refine sR ?_;refine rQ iM ?_;refine rW ?_
    refine rC ?_;refine nS ?_;refine wc_ret ?_;iterate 2 refine seq_r ?_
    exact ⟨trivial, _, rfl, [], lf⟩
 ·have d4 : decide ((1 : Int) < (ws.length : Int)) = false := dF (by have := Option.some.inj hM; omega)
  obtain ⟨rfl, rfl⟩ := h4 rfl
  have z3 : decide (((4 : Nat) : Int) = 3) = false := rfl
  refine qR ?_;iterate 2 refine rC ?_
  refine rQ iE ?_;iterate 2 refine rC ?_
  iterate 2 refine rS ?_
  refine rQ iF ?_;refine nS ?_;refine wG ?_;refine wc_exit ?_;refine seq_x ?_;refine loop_x ?_;refine blk_x ?_;refine seq_n ?_;refine qR ?_;iterate 2 refine rC ?_
  refine nS ?_;refine wG ?_;refine kS ?_;refine qR ?_;iterate 2 refine rC ?_
  refine nS ?_;refine wG ?_;refine kS ?_;refine qR ?_;iterate 2 refine rC ?_
  refine nS ?_;refine wG ?_;refine kS ?_;refine qR ?_;iterate 2 refine rC ?_
  refine nS ?_;refine wG ?_;refine kS ?_;refine sR ?_;refine rQ iM ?_;refine rW ?_;refine rC ?_;refine nS ?_;refine wc_ret ?_
  exact ⟨trivial, _, rfl, [], lf⟩
end Go.Proofs.YthiijfbcfoifnaaGreatDoor
namespace Go.Proofs.YthiijfbcfoifnaaGreatDoor
open Go.Eng Go.Plain
set_option maxHeartbeats 2000000
theorem hd_get {ws : List (List UInt8)} (h : ws ≠ []) : ∃ v, ws[((0 : Int)).toNat]? = some v ∧ ws.head? = some v := by
 cases ws with
 | nil => exact absurd rfl h
 | cons v r => exact ⟨v, rfl, rfl⟩
theorem hd0_no {ws : List (List UInt8)} {v : List UInt8} (c : SCfg) (hv : ws.head? = some v) (h : ¬ ((ws.length : Int) = 5 ∧ v = sVolume)) : hd0 ws c = none := by
 unfold hd0
 split
 ·rename_i v' a' b' d' e'
  obtain rfl : v' = v := Option.some.inj hv
  rw [if_neg (fun e => h ⟨rfl, e⟩)]
 ·rfl
theorem hd0_yes (c : SCfg) (a : List UInt8) (b : List UInt8) (d : List UInt8) (e : List UInt8) (hall : ∀ w ∈ [a, b, d, e], (numS 31 w).isSome = true) : hd0 [sVolume, a, b, d, e] c = some (updH 0 c (nums 31 [a, b, d, e])) := by
 obtain ⟨na, ha⟩ := Option.isSome_iff_exists.1 (hall a (by simp))
 obtain ⟨nb, hb⟩ := Option.isSome_iff_exists.1 (hall b (by simp))
 obtain ⟨nd, hd⟩ := Option.isSome_iff_exists.1 (hall d (by simp))
 obtain ⟨ne, he⟩ := Option.isSome_iff_exists.1 (hall e (by simp))
 simp [hd0, updH, nums, ha, hb, hd, he]
theorem hd0_bad (c : SCfg) (a : List UInt8) (b : List UInt8) (d : List UInt8) (e : List UInt8) (hall : ¬ ∀ w ∈ [a, b, d, e], (numS 31 w).isSome = true) : hd0 [sVolume, a, b, d, e] c = none := by
 simp only [hd0, if_true]
 cases ha : numS 31 a with
 | none => rfl
 | some na =>
  cases hb : numS 31 b with
  | none => rfl
  | some nb =>
   cases hd : numS 31 d with
   | none => rfl
   | some nd =>
    cases he : numS 31 e with
    | none => rfl
    | some ne =>
     exact absurd (fun w hw => by
      simp only [List.mem_cons, List.not_mem_nil, or_false] at hw
      rcases hw with rfl | rfl | rfl | rfl
      ·rw [ha]; rfl
      ·rw [hb]; rfl
      ·rw [hd]; rfl
      ·rw [he]; rfl) hall
theorem hd1_no {ws : List (List UInt8)} {v : List UInt8} (c : SCfg) (hv : ws.head? = some v) (h : ¬ ((ws.length : Int) = 3 ∧ v = sNonces)) : hd1 ws c = none := by
 unfold hd1
 split
 ·rename_i v' a' b'
  obtain rfl : v' = v := Option.some.inj hv
  rw [if_neg (fun e => h ⟨rfl, e⟩)]
 ·rfl
theorem hd1_yes (c : SCfg) (a : List UInt8) (b : List UInt8) (hall : ∀ w ∈ [a, b], (numS 64 w).isSome = true) : hd1 [sNonces, a, b] c = some (updH 1 c (nums 64 [a, b])) := by
 obtain ⟨na, ha⟩ := Option.isSome_iff_exists.1 (hall a (by simp))
 obtain ⟨nb, hb⟩ := Option.isSome_iff_exists.1 (hall b (by simp))
 simp [hd1, updH, nums, ha, hb]
theorem hd1_bad (c : SCfg) (a : List UInt8) (b : List UInt8) (hall : ¬ ∀ w ∈ [a, b], (numS 64 w).isSome = true) : hd1 [sNonces, a, b] c = none := by
 simp only [hd1, if_true]
 cases ha : numS 64 a with
 | none => rfl
 | some na =>
  cases hb : numS 64 b with
  | none => rfl
  | some nb =>
   exact absurd (fun w hw => by
    simp only [List.mem_cons, List.not_mem_nil, or_false] at hw
    rcases hw with rfl | rfl
    ·rw [ha]; rfl
    ·rw [hb]; rfl) hall
theorem hd2_no {ws : List (List UInt8)} {v : List UInt8} (c : SCfg) (hv : ws.head? = some v) (h : ¬ ((ws.length : Int) = 2 ∧ v = sFlaw)) : hd2 ws c = none := by
 unfold hd2
 split
 ·rename_i v' a'
  obtain rfl : v' = v := Option.some.inj hv
  rw [if_neg (fun e => h ⟨rfl, e⟩)]
 ·rfl
theorem hd2_yes (c : SCfg) (a : List UInt8) (hall : ∀ w ∈ [a], (numS 8 w).isSome = true) : hd2 [sFlaw, a] c = some (updH 2 c (nums 8 [a])) := by
 obtain ⟨na, ha⟩ := Option.isSome_iff_exists.1 (hall a (by simp))
 simp [hd2, updH, nums, ha]
theorem hd2_bad (c : SCfg) (a : List UInt8) (hall : ¬ ∀ w ∈ [a], (numS 8 w).isSome = true) : hd2 [sFlaw, a] c = none := by
 simp only [hd2, if_true]
 cases ha : numS 8 a with
 | none => rfl
 | some na =>
  exact absurd (fun w hw => by
   simp only [List.mem_cons, List.not_mem_nil, or_false] at hw
   rcases hw with rfl
   ·rw [ha]; rfl) hall
theorem hd3_no {ws : List (List UInt8)} {v : List UInt8} (c : SCfg) (hv : ws.head? = some v) (h : ¬ ((ws.length : Int) = 2 ∧ v = sMaster)) : hd3 ws c = none := by
 unfold hd3
 split
 ·rename_i v' a'
  obtain rfl : v' = v := Option.some.inj hv
  rw [if_neg (fun e => h ⟨rfl, e⟩)]
 ·rfl
theorem hd4_no {ws : List (List UInt8)} {v : List UInt8} (c : SCfg) (hv : ws.head? = some v) (h : ¬ ((ws.length : Int) = 1 ∧ v = sPrograms)) : hd4 ws c = none := by
 unfold hd4
 split
 ·rename_i v'
  obtain rfl : v' = v := Option.some.inj hv
  rw [if_neg (fun e => h ⟨rfl, e⟩)]
 ·rfl
theorem rhead_is (i : Nat) (hi : i < 5) (t : List UInt8) (c : SCfg) (hm : c.master.length = 32) (ht : t.length ≤ 1048575) : ∃ c' b, RhIs i t c c' b ∧ c'.master.length = 32 ∧ headS i t c = if b = true then some c' else none := by
 obtain ⟨v, g0, hv⟩ := hd_get (splitL_ne t 32)
 match i, hi with
 | 0, _ =>
  rw [headS0]
  by_cases h : ((splitL t 32).length : Int) = 5 ∧ v = sVolume
  ·obtain ⟨h1, rfl⟩ := h
   have h1 : (splitL t 32).length = 5 := by omega
   obtain ⟨u0, u1, u2, u3, u4, hr⟩ : ∃ u0 u1 u2 u3 u4, splitL t 32 = [u0, u1, u2, u3, u4] := by
    generalize splitL t 32 = ws at h1
    match ws, h1 with
    | [u0, u1, u2, u3, u4], _ => exact ⟨_, _, _, _, _, rfl⟩
   obtain rfl : u0 = sVolume := by rw [hr] at hv; exact Option.some.inj hv
   by_cases hall : ∀ w ∈ [u1, u2, u3, u4], (numS 31 w).isSome = true
   ·refine ⟨_, true, rhead_num 0 (by decide) t c _ true ht _ sVolume 5 31 rfl rfl rfl (by decide) g0 h1 rfl (fun hx => absurd (by rw [hr]; exact hall) hx) (fun _ => ⟨rfl, rfl⟩), hm, ?_⟩
    rw [hr, hd0_yes c u1 u2 u3 u4 hall]
    rfl
   ·refine ⟨c, false, rhead_num 0 (by decide) t c c false ht _ sVolume 5 31 rfl rfl rfl (by decide) g0 h1 rfl (fun _ => ⟨rfl, rfl⟩) (fun hx => absurd (by rw [hr] at hx; exact hx) hall), hm, ?_⟩
    rw [hr, hd0_bad c u1 u2 u3 u4 hall]
    rfl
  ·exact ⟨c, false, rhead_bad 0 (by decide) t c ht v sVolume 5 rfl rfl g0 h, hm, by rw [hd0_no c hv h]; rfl⟩
 | 1, _ =>
  rw [headS1]
  by_cases h : ((splitL t 32).length : Int) = 3 ∧ v = sNonces
  ·obtain ⟨h1, rfl⟩ := h
   have h1 : (splitL t 32).length = 3 := by omega
   obtain ⟨u0, u1, u2, hr⟩ : ∃ u0 u1 u2, splitL t 32 = [u0, u1, u2] := by
    generalize splitL t 32 = ws at h1
    match ws, h1 with
    | [u0, u1, u2], _ => exact ⟨_, _, _, rfl⟩
   obtain rfl : u0 = sNonces := by rw [hr] at hv; exact Option.some.inj hv
   by_cases hall : ∀ w ∈ [u1, u2], (numS 64 w).isSome = true
   ·refine ⟨_, true, rhead_num 1 (by decide) t c _ true ht _ sNonces 3 64 rfl rfl rfl (by decide) g0 h1 rfl (fun hx => absurd (by rw [hr]; exact hall) hx) (fun _ => ⟨rfl, rfl⟩), hm, ?_⟩
    rw [hr, hd1_yes c u1 u2 hall]
    rfl
   ·refine ⟨c, false, rhead_num 1 (by decide) t c c false ht _ sNonces 3 64 rfl rfl rfl (by decide) g0 h1 rfl (fun _ => ⟨rfl, rfl⟩) (fun hx => absurd (by rw [hr] at hx; exact hx) hall), hm, ?_⟩
    rw [hr, hd1_bad c u1 u2 hall]
    rfl
  ·exact ⟨c, false, rhead_bad 1 (by decide) t c ht v sNonces 3 rfl rfl g0 h, hm, by rw [hd1_no c hv h]; rfl⟩
 | 2, _ =>
  rw [headS2]
  by_cases h : ((splitL t 32).length : Int) = 2 ∧ v = sFlaw
  ·obtain ⟨h1, rfl⟩ := h
   have h1 : (splitL t 32).length = 2 := by omega
   obtain ⟨u0, u1, hr⟩ : ∃ u0 u1, splitL t 32 = [u0, u1] := by
    generalize splitL t 32 = ws at h1
    match ws, h1 with
    | [u0, u1], _ => exact ⟨_, _, rfl⟩
   obtain rfl : u0 = sFlaw := by rw [hr] at hv; exact Option.some.inj hv
   by_cases hall : ∀ w ∈ [u1], (numS 8 w).isSome = true
   ·refine ⟨_, true, rhead_num 2 (by decide) t c _ true ht _ sFlaw 2 8 rfl rfl rfl (by decide) g0 h1 rfl (fun hx => absurd (by rw [hr]; exact hall) hx) (fun _ => ⟨rfl, rfl⟩), hm, ?_⟩
    rw [hr, hd2_yes c u1 hall]
    rfl
   ·refine ⟨c, false, rhead_num 2 (by decide) t c c false ht _ sFlaw 2 8 rfl rfl rfl (by decide) g0 h1 rfl (fun _ => ⟨rfl, rfl⟩) (fun hx => absurd (by rw [hr] at hx; exact hx) hall), hm, ?_⟩
    rw [hr, hd2_bad c u1 hall]
    rfl
  ·exact ⟨c, false, rhead_bad 2 (by decide) t c ht v sFlaw 2 rfl rfl g0 h, hm, by rw [hd2_no c hv h]; rfl⟩
 | 3, _ =>
  rw [headS3]
  by_cases h : ((splitL t 32).length : Int) = 2 ∧ v = sMaster
  ·obtain ⟨h1, rfl⟩ := h
   have h1 : (splitL t 32).length = 2 := by omega
   obtain ⟨u0, u1, hr⟩ : ∃ u0 u1, splitL t 32 = [u0, u1] := by
    generalize splitL t 32 = ws at h1
    match ws, h1 with
    | [u0, u1], _ => exact ⟨_, _, rfl⟩
   obtain rfl : u0 = sMaster := by rw [hr] at hv; exact Option.some.inj hv
   have hg1 : (splitL t 32)[1]? = some u1 := by rw [hr]; rfl
   have hh : hd3 (splitL t 32) c = match unhexP u1 with
    | some b => if b.length = 32 then some { c with master := b } else none
    | none => none := by rw [hr]; rfl
   rw [hh]
   cases hu : unhexP u1 with
   | none => exact ⟨c, false, rhead_34 3 (.inl rfl) t c c false hm ht _ sMaster 2 rfl rfl g0 h1 rfl u1 (fun _ => hg1) (fun e => by cases e) (fun _ => by rw [hu]; exact ⟨rfl, rfl⟩), hm, rfl⟩
   | some d =>
    by_cases hd : d.length = 32
    ·exact ⟨{ c with master := d }, true, rhead_34 3 (.inl rfl) t c _ true hm ht _ sMaster 2 rfl rfl g0 h1 rfl u1 (fun _ => hg1) (fun e => by cases e) (fun _ => by rw [hu]; show if d.length = 32 then _ ∧ _ else _ ∧ _; rw [if_pos hd]; exact ⟨rfl, rfl⟩), hd, by show (if d.length = 32 then _ else _) = _; rw [if_pos hd]; rfl⟩
    ·exact ⟨c, false, rhead_34 3 (.inl rfl) t c c false hm ht _ sMaster 2 rfl rfl g0 h1 rfl u1 (fun _ => hg1) (fun e => by cases e) (fun _ => by rw [hu]; show if d.length = 32 then _ ∧ _ else _ ∧ _; rw [if_neg hd]; exact ⟨rfl, rfl⟩), hm, by show (if d.length = 32 then _ else _) = _; rw [if_neg hd]; rfl⟩
  ·exact ⟨c, false, rhead_bad 3 (by decide) t c ht v sMaster 2 rfl rfl g0 h, hm, by rw [hd3_no c hv h]; rfl⟩
 | 4, _ =>
  rw [headS4]
  by_cases h : ((splitL t 32).length : Int) = 1 ∧ v = sPrograms
  ·obtain ⟨h1, rfl⟩ := h
   have h1 : (splitL t 32).length = 1 := by omega
   obtain ⟨u0, hr⟩ : ∃ u0, splitL t 32 = [u0] := by
    generalize splitL t 32 = ws at h1
    match ws, h1 with
    | [u0], _ => exact ⟨_, rfl⟩
   obtain rfl : u0 = sPrograms := by rw [hr] at hv; exact Option.some.inj hv
   exact ⟨c, true, rhead_34 4 (.inr rfl) t c c true hm ht _ sPrograms 1 rfl rfl g0 h1 rfl [] (fun e => by cases e) (fun _ => ⟨rfl, rfl⟩) (fun e => by cases e), hm, by rw [hr]; rfl⟩
  ·exact ⟨c, false, rhead_bad 4 (by decide) t c ht v sPrograms 1 rfl rfl g0 h, hm, by rw [hd4_no c hv h]; rfl⟩
end Go.Proofs.YthiijfbcfoifnaaGreatDoor
namespace Go.Proofs.YthiijfbcfoifnaaGreatDoor
open Go.Eng Go.Plain
set_option maxHeartbeats 8000000
set_option maxRecDepth 20000
attribute [local irreducible] WC RegS RegD SeqQ BlkQ ScoQ RegK CutK Sat SatN FnIs LoopQ StepIs OpIs
abbrev parSB (x : SScr) (n : Nat) (e : Int) : AV := .tup (.acons (.d (encScr x.1 x.2.1 x.2.2)) (.acons (.int .i64 n) (.acons (.d (i6 e)) .anil)))
theorem z30_leS : DLe r30.zero (encScr zCfg [] []) := DLe.cons (DLe.of_eq rfl) (DLe.cons (DLe.nil_arr _ _) (DLe.cons (DLe.nil_arr _ _) (.refl _)))
abbrev rowZ : Row := .box 30 (.d r30.zero)
theorem lparse_is (t : List UInt8) (h : t.length ≤ 1048575) : FnIs Tryz.prog 14 [.d (strD t)] [] (parSB (parseS t).1 (parseS t).2.1 (parseS t).2.2) [] := by
 by_cases hemp : t = []
 ·have d0 : decide ((t.length : Int) = 0) = true := by rw [hemp]; rfl
  rw [show parseS t = (zScr, 0, 5) by rw [hemp]; rfl]
  refine fnIs_of tab_ok Tryz.func14 rfl rfl rfl ?_;refine sR ?_;refine rN ?_;iterate 2 refine rC ?_
  refine nR ?_;refine rQ iS ?_;refine rN ?_;refine rW ?_;refine nQ ?_;refine sR ?_;refine rC ?_;refine rQ (len_s tab_ok rfl rfl) ?_;iterate 2 refine rC ?_
  iterate 6 refine rS ?_
  refine rQ iT ?_;refine nS ?_;refine wV ?_;refine sR ?_;refine rQ iM ?_;refine rW ?_;iterate 2 refine rC ?_
  refine nS ?_;refine wc_ret ?_;refine seq_r ?_
  exact ⟨trivial, _, rfl, [], .of rfl rfl rfl rfl rfl ⟨⟨_, rfl, AVLe.tup1 (AVLe.d z30_leS rfl) rfl⟩, rfl, trivial⟩ trivial⟩
 have hpos : 0 < t.length := List.length_pos_iff.2 hemp
 have d0 : decide ((t.length : Int) = 0) = false := dF (by omega)
 have hw1 : IntKind.i64.wrap ((t.length : Int) - 1) = ((t.length - 1 : Nat) : Int) := by rw [wrap_i64 (by omega) (by omega)]; omega
 obtain ⟨b, hb⟩ : ∃ b, t[t.length - 1]? = some b := ⟨_, List.getElem?_eq_getElem (by omega)⟩
 have hgl : t.getLast? = some b := by rw [List.getLast?_eq_getElem?]; exact hb
 by_cases hlast : b = 10
 case neg =>
  have d1 : (!decide ((b.toNat : Int) = 10)) = true := by rw [dF (fun e => hlast (UInt8.toNat_inj.1 (by have : (10 : UInt8).toNat = 10 := rfl; omega)))]; rfl
  rw [show parseS t = (zScr, 0, 5) from if_neg (by rw [hgl]; exact fun e => hlast (Option.some.inj e))]
  refine fnIs_of tab_ok Tryz.func14 rfl rfl rfl ?_;refine sR ?_;refine rN ?_;iterate 2 refine rC ?_
  refine nR ?_;refine rQ iS ?_;refine rN ?_;refine rW ?_;refine nQ ?_;refine sR ?_;refine rC ?_;refine rQ (len_s tab_ok rfl rfl) ?_;iterate 2 refine rC ?_
  refine rO ?_;refine rC ?_;refine rO ?_;refine rC ?_;refine rO ?_;refine rQ (len_s tab_ok rfl rfl) ?_;refine rO ?_;refine rQ (sub_int (m := ((t.length - 1 : Nat) : Int)) tab_ok rfl rfl hw1) ?_
  refine rO ?_;refine rQ (index_s (l := t) (m := t.length - 1) tab_ok rfl rfl rfl hb) ?_;refine rO ?_;refine rC ?_;refine rQ iF ?_;refine nS ?_;refine wT ?_;refine sR ?_
  refine rQ iM ?_;refine rW ?_;iterate 2 refine rC ?_
  refine nS ?_;refine wc_ret ?_;refine seq_r ?_
  exact ⟨trivial, _, rfl, [], .of rfl rfl rfl rfl rfl ⟨⟨_, rfl, AVLe.tup1 (AVLe.d z30_leS rfl) rfl⟩, rfl, trivial⟩ trivial⟩
 subst hlast
 have d1 : (!decide ((((10 : UInt8)).toNat : Int) = 10)) = false := rfl
 rw [show parseS t = parseLs (splitL t.dropLast 10) from if_pos hgl]
 have hdlen : t.dropLast.length = t.length - 1 := List.length_dropLast
 have hdl : t.take (t.length - 1) = t.dropLast := List.dropLast_eq_take.symm
 have hct := rcut34_is t.dropLast 10 (by omega)
 have hall := split_all 10 t.dropLast
 rw [← last_drop hgl] at hall
 have hlsn := splitL_len t.dropLast 10
 have hmem : ∀ w ∈ splitL t.dropLast 10, w.length ≤ 1048575 := fun w hw => by have := split_mem_le t.dropLast 10 w hw; omega
 obtain ⟨ls, hls⟩ : ∃ ls, splitL t.dropLast 10 = ls := ⟨_, rfl⟩
 rw [hls] at hct hall hlsn hmem ⊢
 have hTls : linesT ls = t := hall
 have hlsn : ls.length ≤ 1048576 := by omega
 clear hall hls
 refine fnIs_of tab_ok Tryz.func14 rfl rfl rfl ?_;refine sR ?_;refine rN ?_;iterate 2 refine rC ?_
 refine nR ?_;refine rQ iS ?_;refine rN ?_;refine rW ?_;refine nQ ?_;refine sR ?_;refine rC ?_;refine rQ (len_s tab_ok rfl rfl) ?_;iterate 2 refine rC ?_
 refine rO ?_;refine rC ?_;refine rO ?_;refine rC ?_;refine rO ?_;refine rQ (len_s tab_ok rfl rfl) ?_;refine rO ?_;refine rQ (sub_int (m := ((t.length - 1 : Nat) : Int)) tab_ok rfl rfl hw1) ?_
 refine rO ?_;refine rQ (index_s (l := t) (m := t.length - 1) tab_ok rfl rfl rfl hb) ?_;refine rO ?_;refine rC ?_;refine rQ iF ?_;refine nS ?_;refine wG ?_;refine kS ?_
 refine sR ?_;iterate 2 refine rC ?_
 refine rQ (len_s tab_ok rfl rfl) ?_;refine rQ (sub_int (m := ((t.length - 1 : Nat) : Int)) tab_ok rfl rfl hw1) ?_;refine rQ (str_to (l := t) (hi := t.length - 1) (m := t.dropLast) tab_ok rfl rfl rfl (by omega) hdl) ?_
 refine rQ (call_r hct rfl rfl (arg_e (arg_e arg_nil)) (.inl rfl) (fun _ => rfl)) ?_;refine rC ?_;refine nR ?_;refine rQ iM ?_;refine rN ?_;refine rW ?_;refine nQ ?_
 refine sR ?_;refine rC ?_;refine nS ?_;refine wc_block ?_
 refine wc_inv (fun x : Nat × SCfg => ⟨[(8, .int .i64 x.1), (7, .ptr 64 []), (6, .d (.arr 1 strD ls)), (5, .ptr 65 []), (2, .ptr 66 [])], [(64, some (.box 30 (.d (.cons (encCfg x.2) R0)))), (65, some rowZ), (66, some rowZ)], 72, Tryz.f14.ntmps, 64⟩) (fun x => x.1 ≤ 5 ∧ x.1 ≤ ls.length ∧ x.2.master.length = 32 ∧ headsS 5 0 ls zCfg = headsS (5 - x.1) x.1 (ls.drop x.1) x.2) (fun x => 5 - x.1) (0, zCfg) [(64, some _), (65, some _), (66, some _)] ⟨Nat.zero_le _, Nat.zero_le _, rfl, rfl⟩
  (.of rfl rfl rfl rfl rfl ⟨⟨_, rfl, .refl _⟩, rfl, ⟨_, rfl, .refl _⟩, rfl, ⟨_, rfl, .refl _⟩, rfl, ⟨_, rfl, .refl _⟩, rfl, ⟨_, rfl, .refl _⟩, rfl, trivial⟩ ⟨⟨rfl, rfl, _, rfl, RowLe.of_eq rfl⟩, ⟨rfl, rfl, _, rfl, .refl _⟩, ⟨rfl, rfl, _, rfl, .refl _⟩, trivial⟩) ?_
 rintro ⟨i, c⟩ ⟨hi5, hil, hmas, hinv⟩
 simp only at hi5 hil hmas hinv
 refine wc_of ?_
 by_cases hi : i < 5
 ·have d2 : decide ((i : Int) < 5) = true := dT (by omega)
  obtain ⟨f, hf⟩ : ∃ f, 5 - i = f + 1 := ⟨4 - i, by omega⟩
  by_cases hlt : i < ls.length
  ·have d3 : decide ((i : Int) < (ls.length : Int)) = true := dT (by omega)
   obtain ⟨x, hx⟩ : ∃ x, ls[i]? = some x := ⟨_, List.getElem?_eq_getElem hlt⟩
   have hx2 : ls[((i : Int)).toNat]? = some x := by rw [Int.toNat_natCast]; exact hx
   have hdr : ls.drop i = x :: ls.drop (i + 1) := by
    rw [List.drop_eq_getElem_cons hlt]
    rw [List.getElem?_eq_getElem hlt] at hx
    rw [Option.some.inj hx]
   obtain ⟨c', res, hh, hmas', hq⟩ := rhead_is i hi x c hmas (hmem x (List.mem_of_getElem? hx))
   rw [hf, hdr, headsS, hq] at hinv
   unfold RhIs at hh
   cases res with
   | true =>
    refine qR ?_;iterate 2 refine rC ?_
    refine nS ?_;refine wT ?_;refine kS ?_;refine wc_seq ?_;refine wc_block ?_;refine sR ?_;refine rC ?_;refine nQ ?_;refine sR ?_;iterate 2 refine rC ?_
    refine rQ iE ?_;refine rC ?_;refine nS ?_;refine wT ?_;refine wc_draw (by kernel_rfl) ?_;refine dC [8] [] ?_;refine dC [6] [] ?_;refine dC [8] [] ?_;refine dQ [49, 50] [] (index_arr tab_ok rfl rfl rfl rfl rfl (by omega) hx2) ?_
    refine dQ [51] [] iL ?_;refine dC [7] [] ?_;refine dQ [53] [64] iB ?_;refine dQ [48, 52, 54] [] (call_r hh rfl rfl (arg_e (arg_e (arg_e arg_nil))) (.inl rfl) (fun _ => rfl)) ?_
    refine dC [55] [] ?_;iterate 2 refine dC [47] [] ?_
    refine dC [7] [] ?_;refine dreg_s [58, 56] [64] (store_row tab_ok rfl rfl rfl ⟨_, ⟨_, ⟨_, ⟨rfl, rfl, rfl⟩, rfl⟩, rfl⟩, rfl⟩ rfl) ?_;refine dC [57] [] ?_;refine dreg_end (by kernel_rfl) ?_
    refine seq_n ?_;refine sR ?_;iterate 2 refine rC ?_
    refine nS ?_;refine wG ?_;refine wc_skip ?_;refine blk_n ?_;refine seq_n ?_;refine wc_region ?_;refine rC ?_;refine rQ iD ?_;refine rC ?_;refine reg_nil ?_
    exact loop_n (i + 1, c') [(64, some _), (65, some _), (66, some _)] ⟨hi, hlt, hmas', by rw [hinv, if_pos rfl]; show headsS f (i + 1) _ _ = headsS (5 - (i + 1)) (i + 1) _ _; rw [show 5 - (i + 1) = f by omega]⟩ (by show 5 - (i + 1) < 5 - i; omega) (.of rfl rfl rfl rfl rfl ⟨⟨_, rfl, .refl _⟩, rfl, ⟨_, rfl, .refl _⟩, rfl, ⟨_, rfl, .refl _⟩, rfl, ⟨_, rfl, .refl _⟩, rfl, ⟨_, rfl, .refl _⟩, rfl, trivial⟩ ⟨⟨rfl, rfl, _, rfl, .refl _⟩, ⟨rfl, rfl, _, rfl, .refl _⟩, ⟨rfl, rfl, _, rfl, .refl _⟩, trivial⟩)
   | false =>
    rw [show parseLs ls = (zScr, i + 1, 5) by unfold parseLs; rw [hinv, if_neg (by decide)]]
    refine qR ?_;iterate 2 refine rC ?_
    refine nS ?_;refine wT ?_;refine kS ?_;refine wc_seq ?_;refine wc_block ?_;refine sR ?_;refine rC ?_;refine nQ ?_;refine sR ?_;iterate 2 refine rC ?_
    refine rQ iE ?_;refine rC ?_;refine nS ?_;refine wT ?_;refine wc_draw (by kernel_rfl) ?_;refine dC [8] [] ?_;refine dC [6] [] ?_;refine dC [8] [] ?_;refine dQ [49, 50] [] (index_arr tab_ok rfl rfl rfl rfl rfl (by omega) hx2) ?_
    refine dQ [51] [] iL ?_;refine dC [7] [] ?_;refine dQ [53] [64] iB ?_;refine dQ [48, 52, 54] [] (call_r hh rfl rfl (arg_e (arg_e (arg_e arg_nil))) (.inl rfl) (fun _ => rfl)) ?_
    refine dC [55] [] ?_;iterate 2 refine dC [47] [] ?_
    refine dC [7] [] ?_;refine dreg_s [58, 56] [64] (store_row tab_ok rfl rfl rfl ⟨_, ⟨_, ⟨_, ⟨rfl, rfl, rfl⟩, rfl⟩, rfl⟩, rfl⟩ rfl) ?_;refine dC [57] [] ?_;refine dreg_end (by kernel_rfl) ?_
    refine seq_n ?_;refine sR ?_;iterate 2 refine rC ?_
    refine nS ?_;refine wV ?_;refine sR ?_;refine rQ iM ?_;refine rC ?_;refine rQ iD ?_;refine rW ?_;iterate 2 refine rC ?_
    refine nS ?_;refine wc_ret ?_;refine blk_r ?_;refine seq_r ?_;refine loop_r ?_;refine blk_r ?_;refine seq_r ?_
    exact ⟨trivial, _, rfl, [], .of rfl rfl rfl rfl rfl ⟨⟨_, rfl, AVLe.tup1 (AVLe.d z30_leS rfl) rfl⟩, rfl, trivial⟩ trivial⟩
  ·have d3 : decide ((i : Int) < (ls.length : Int)) = false := dF (by omega)
   rw [hf, List.drop_eq_nil_of_le (by omega), headsS] at hinv
   rw [show parseLs ls = (zScr, i + 1, 5) by unfold parseLs; rw [hinv]]
   refine qR ?_;iterate 2 refine rC ?_
   refine nS ?_;refine wT ?_;refine kS ?_;refine wc_seq ?_;refine wc_block ?_;refine sR ?_;refine rC ?_;refine nQ ?_;refine sR ?_;iterate 2 refine rC ?_
   refine rQ iE ?_;refine rC ?_;refine nS ?_;refine wF ?_;refine kS ?_;refine sR ?_;iterate 2 refine rC ?_
   refine nS ?_;refine wV ?_;refine sR ?_;refine rQ iM ?_;refine rC ?_;refine rQ iD ?_;refine rW ?_;iterate 2 refine rC ?_
   refine nS ?_;refine wc_ret ?_;refine blk_r ?_;refine seq_r ?_;refine loop_r ?_;refine blk_r ?_;refine seq_r ?_
   exact ⟨trivial, _, rfl, [], .of rfl rfl rfl rfl rfl ⟨⟨_, rfl, AVLe.tup1 (AVLe.d z30_leS rfl) rfl⟩, rfl, trivial⟩ trivial⟩
 have hi5 : i = 5 := by omega
 subst hi5
 have d2 : decide (((5 : Nat) : Int) < 5) = false := rfl
 have h5 := hil
 have hinv : headsS 5 0 ls zCfg = .inl c := hinv
 refine qR ?_;iterate 2 refine rC ?_
 refine nS ?_;refine wG ?_;refine wc_exit ?_;refine seq_x ?_;refine loop_x ?_;refine blk_x ?_;refine seq_n ?_;refine sR ?_;refine rC ?_;refine nR ?_;refine rC ?_
 refine nQ ?_;refine wc_block ?_
 refine wc_inv (fun j : Nat => ⟨[(10, .int .i64 ((5 + j : Nat) : Int)), (11, .d (strD (linesT ((ls.drop 5).take j)))), (7, .ptr 64 []), (6, .d (.arr 1 strD ls)), (5, .ptr 65 []), (2, .ptr 66 [])], [(64, some (.box 30 (.d (.cons (encCfg c) R0)))), (65, some rowZ), (66, some rowZ)], 72, Tryz.f14.ntmps, 64⟩) (fun j => 5 + j ≤ ls.length ∧ ∀ q, q < j → ∀ w, (ls.drop 5)[q]? = some w → w ≠ sActions) (fun j => ls.length - j) 0 [(64, some _), (65, some _), (66, some _)] ⟨h5, fun q hq => absurd hq (Nat.not_lt_zero _)⟩
  (.of rfl rfl rfl rfl rfl ⟨⟨_, rfl, .refl _⟩, rfl, ⟨_, rfl, .refl _⟩, rfl, ⟨_, rfl, .refl _⟩, rfl, ⟨_, rfl, .refl _⟩, rfl, ⟨_, rfl, .refl _⟩, rfl, ⟨_, rfl, .refl _⟩, rfl, trivial⟩ ⟨⟨rfl, rfl, _, rfl, .refl _⟩, ⟨rfl, rfl, _, rfl, .refl _⟩, ⟨rfl, rfl, _, rfl, .refl _⟩, trivial⟩) ?_
 rintro j ⟨hj, hno⟩
 refine wc_of ?_
 by_cases hjl : 5 + j < ls.length
 case neg =>
  have hje : 5 + j = ls.length := by omega
  have d3 : decide (((5 + j : Nat) : Int) < (ls.length : Int)) = false := dF (by omega)
  have d4 : decide (((5 + j : Nat) : Int) = (ls.length : Int)) = true := dT (by omega)
  have hnone : (ls.drop 5).findIdx? (fun x => x == sActions) = none := by
   rw [List.findIdx?_eq_none_iff]
   intro w hw
   obtain ⟨q, hq⟩ := List.mem_iff_getElem?.1 hw
   have hql := (List.getElem?_eq_some_iff.1 hq).1
   rw [List.length_drop] at hql
   simpa using hno q (by omega) w hq
  rw [show parseLs ls = (zScr, ls.length + 1, 5) by unfold parseLs; rw [hinv]; simp only [hnone]]
  refine qR ?_;iterate 2 refine rC ?_
  refine rQ iE ?_;iterate 2 refine rC ?_
  iterate 5 refine rS ?_
  refine rQ iF ?_;refine nS ?_;refine wG ?_;refine wc_exit ?_;refine seq_x ?_;refine loop_x ?_;refine blk_x ?_;refine seq_n ?_;refine qR ?_;iterate 2 refine rC ?_
  refine rQ iE ?_;refine rC ?_;refine nS ?_;refine wT ?_;refine sR ?_;refine rQ iM ?_;refine rC ?_;refine rQ iE ?_;refine rQ iD ?_;refine rW ?_;iterate 2 refine rC ?_
  refine nS ?_;refine wc_ret ?_;refine seq_r ?_
  exact ⟨trivial, _, rfl, [], .of rfl rfl rfl rfl rfl ⟨⟨_, rfl, AVLe.tup1 (AVLe.d z30_leS rfl) rfl⟩, rfl, trivial⟩ trivial⟩
 have d3 : decide (((5 + j : Nat) : Int) < (ls.length : Int)) = true := dT (by omega)
 obtain ⟨x, hx⟩ : ∃ x, (ls.drop 5)[j]? = some x := ⟨_, List.getElem?_eq_getElem (by rw [List.length_drop]; omega)⟩
 have hx2 : ls[(((5 + j : Nat) : Int)).toNat]? = some x := by rw [Int.toNat_natCast, ← List.getElem?_drop]; exact hx
 have hxm : x ∈ ls := List.mem_of_mem_drop (List.mem_of_getElem? hx)
 have hmlen : (linesT ((ls.drop 5).take j)).length ≤ t.length := by
  rw [← hTls]
  exact Nat.le_trans (linesT_take _ _) (linesT_drop _ _)
 by_cases hxa : x = sActions
 case neg =>
  have d4 : (!decide (x = sActions)) = true := by rw [dF hxa]; rfl
  have hxl := hmem x hxm
  have hl80 : (linesT ((ls.drop 5).take j)).length + x.length ≤ 9223372036854775807 := by omega
  have hl81 : (linesT ((ls.drop 5).take j) ++ x).length + [(10 : UInt8)].length ≤ 9223372036854775807 := by simp; omega
  have hm81 : linesT ((ls.drop 5).take j) ++ x ++ [10] = linesT ((ls.drop 5).take (j + 1)) := by rw [List.take_add_one, hx, Option.toList_some, linesT_app]; simp [linesT]
  refine qR ?_;iterate 2 refine rC ?_
  refine rQ iE ?_;iterate 2 refine rC ?_
  refine rO ?_;refine rC ?_;refine rO ?_;refine rC ?_;refine rO ?_;refine rQ (index_arr tab_ok rfl rfl rfl rfl rfl (by omega) hx2) ?_;refine rO ?_;refine rQ iL ?_
  refine rO ?_;refine rQ (neq_s (a := x) (b := sActions) tab_ok rfl rfl rfl) ?_;refine rQ iT ?_;refine nS ?_;refine wT ?_;refine kS ?_;refine wc_block ?_;refine sR ?_
  iterate 3 refine rC ?_
  refine rQ (index_arr tab_ok rfl rfl rfl rfl rfl (by omega) hx2) ?_;refine rQ iL ?_;refine rQ (add_str (a := linesT ((ls.drop 5).take j)) (b := x) rfl rfl hl80 rfl) ?_
  refine rQ (add_str (a := linesT ((ls.drop 5).take j) ++ x) (b := [10]) rfl rfl hl81 hm81) ?_;refine rC ?_;refine nS ?_;refine wc_region ?_;refine rC ?_;refine rQ iD ?_
  refine rC ?_;refine reg_nil ?_;refine blk_n ?_
  exact loop_n (j + 1) [(64, some _), (65, some _), (66, some _)] ⟨by omega, fun q hq w hw => by
   by_cases e : q = j
   ·subst e; rw [hx] at hw; cases hw; exact hxa
   ·exact hno q (by omega) w hw⟩ (by omega) (.of rfl rfl rfl rfl rfl ⟨⟨_, rfl, .refl _⟩, rfl, ⟨_, rfl, .refl _⟩, rfl, ⟨_, rfl, .refl _⟩, rfl, ⟨_, rfl, .refl _⟩, rfl, ⟨_, rfl, .refl _⟩, rfl, ⟨_, rfl, .refl _⟩, rfl, trivial⟩ ⟨⟨rfl, rfl, _, rfl, .refl _⟩, ⟨rfl, rfl, _, rfl, .refl _⟩, ⟨rfl, rfl, _, rfl, .refl _⟩, trivial⟩)
 subst hxa
 have d4 : (!decide (sActions = sActions)) = false := by rw [dT rfl]; rfl
 have d5 : decide (((5 + j : Nat) : Int) = (ls.length : Int)) = false := dF (by omega)
 have hfd : (ls.drop 5).findIdx? (· == sActions) = some j := by
  rw [List.findIdx?_eq_some_iff_getElem]
  have hjd : j < (ls.drop 5).length := by rw [List.length_drop]; omega
  refine ⟨hjd, ?_, fun q hq => ?_⟩
  ·have := List.getElem?_eq_getElem hjd
   rw [hx] at this
   simp [← Option.some.inj this]
  ·have hqd : q < (ls.drop 5).length := by omega
   have := hno q hq _ (List.getElem?_eq_getElem hqd)
   simpa using this
 have hpp := parse_is (linesT ((ls.drop 5).take j)) (by omega)
 obtain ⟨⟨l, n, e⟩, hpe⟩ : ∃ x, parseP (linesT ((ls.drop 5).take j)) [] 1 = x := ⟨_, rfl⟩
 rw [hpe] at hpp
 simp only at hpp
 have hpl : parseLs ls = if e ≠ 0 then (zScr, n + 5, e) else match actsS (ls.drop (5 + j + 1)) (5 + j + 1) with
    | .inr i => (zScr, i + 1, 5)
    | .inl bs => if schk c l bs ≠ 0 then (zScr, 0, schk c l bs) else ((c, l, bs), 0, 0) := by
  unfold parseLs
  rw [hinv]
  simp only [hfd]
  rw [hpe, show 6 + j = 5 + j + 1 by omega]
  rfl
 by_cases he : e = 0
 case neg =>
  have d6 : (!decide (e = 0)) = true := by rw [dF he]; rfl
  rw [hpl, if_pos he]
  have hnn := parse_num _ _ _ _ _ _ _ (Nat.le_refl _) hpe
  refine qR ?_;iterate 2 refine rC ?_
  refine rQ iE ?_;iterate 2 refine rC ?_
  refine rO ?_;refine rC ?_;refine rO ?_;refine rC ?_;refine rO ?_;refine rQ (index_arr tab_ok rfl rfl rfl rfl rfl (by omega) hx2) ?_;refine rO ?_;refine rQ iL ?_
  refine rO ?_;refine rQ (neq_s (a := sActions) (b := sActions) tab_ok rfl rfl rfl) ?_;refine rQ iT ?_;refine nS ?_;refine wG ?_;refine wc_exit ?_;refine seq_x ?_
  refine loop_x ?_;refine blk_x ?_;refine seq_n ?_;refine qR ?_;iterate 2 refine rC ?_
  refine rQ iE ?_;refine rC ?_;refine nS ?_;refine wF ?_;refine kS ?_;refine sR ?_;refine rC ?_;refine rQ (call_r hpp rfl rfl (arg_e arg_nil) (.inl rfl) (fun _ => rfl)) ?_
  iterate 7 refine rC ?_
  refine nQ ?_;refine sR ?_;iterate 2 refine rC ?_
  refine nS ?_;refine wT ?_;refine sR ?_;refine rQ iM ?_;refine rC ?_;refine rQ iD ?_;refine rC ?_;refine rW ?_;iterate 2 refine rC ?_
  refine nS ?_;refine wc_ret ?_;refine seq_r ?_
  exact ⟨trivial, _, rfl, [], .of rfl rfl rfl rfl rfl ⟨⟨_, rfl, AVLe.tup1 (AVLe.d z30_leS rfl) rfl⟩, rfl, trivial⟩ trivial⟩
 subst he
 have d6 : (!decide ((0 : Int) = 0)) = false := rfl
 rw [hpl, if_neg (fun h => h rfl)]
 obtain ⟨p1, p2, p3, p4⟩ := parse_out _ _ [] _ 1 _ (Nat.le_refl _) (by decide) (by intro p hp; cases hp) hpe
 refine qR ?_;iterate 2 refine rC ?_
 refine rQ iE ?_;iterate 2 refine rC ?_
 refine rO ?_;refine rC ?_;refine rO ?_;refine rC ?_;refine rO ?_;refine rQ (index_arr tab_ok rfl rfl rfl rfl rfl (by omega) hx2) ?_;refine rO ?_;refine rQ iL ?_
 refine rO ?_;refine rQ (neq_s (a := sActions) (b := sActions) tab_ok rfl rfl rfl) ?_;refine rQ iT ?_;refine nS ?_;refine wG ?_;refine wc_exit ?_;refine seq_x ?_
 refine loop_x ?_;refine blk_x ?_;refine seq_n ?_;refine qR ?_;iterate 2 refine rC ?_
 refine rQ iE ?_;refine rC ?_;refine nS ?_;refine wF ?_;refine kS ?_;refine sR ?_;refine rC ?_;refine rQ (call_r hpp rfl rfl (arg_e arg_nil) (.inl rfl) (fun _ => rfl)) ?_
 iterate 7 refine rC ?_
 refine nQ ?_;refine sR ?_;iterate 2 refine rC ?_
 refine nS ?_;refine wG ?_;refine kS ?_;refine sR ?_;iterate 2 refine rC ?_
 refine rX ?_;refine nQ ?_;refine sR ?_;refine rC ?_;refine rQ iD ?_;refine rC ?_;refine nS ?_;refine wc_block ?_
 refine wc_inv (fun x : Nat × List SAct => ⟨[(15, .int .i64 x.1), (7, .ptr 64 []), (6, .d (.arr 1 strD ls)), (5, .ptr 65 []), (2, .ptr 66 [])], [(64, some (rowA c l x.2 67)), (65, some rowZ), (66, some rowZ), (67, some (.ds 39 5 false encAct x.2))], 72, Tryz.f14.ntmps, 64⟩) (fun x => x.1 ≤ ls.length ∧ x.2.length ≤ x.1 ∧ actsS (ls.drop (5 + j + 1)) (5 + j + 1) = preA x.2 (actsS (ls.drop x.1) x.1)) (fun x => ls.length - x.1) (5 + j + 1, []) [(64, some _), (65, some _), (66, some _), (67, none)] ⟨hjl, Nat.zero_le _, (preA_nil _).symm⟩
  (.of rfl rfl rfl rfl rfl ⟨⟨_, rfl, .refl _⟩, rfl, ⟨_, rfl, .refl _⟩, rfl, ⟨_, rfl, .refl _⟩, rfl, ⟨_, rfl, .refl _⟩, rfl, ⟨_, rfl, .refl _⟩, rfl, trivial⟩ ⟨⟨rfl, rfl, _, rfl, split3⟩, ⟨rfl, rfl, _, rfl, .refl _⟩, ⟨rfl, rfl, _, rfl, .refl _⟩, ⟨rfl, rfl, rfl⟩, trivial⟩) ?_
 rintro ⟨i, bs⟩ ⟨hi, hbi, hac0⟩
 simp only at hi hbi hac0
 refine wc_of ?_
 by_cases hlt : i < ls.length
 ·have d7 : decide ((i : Int) < (ls.length : Int)) = true := dT (by omega)
  obtain ⟨x, hx⟩ : ∃ x, ls[i]? = some x := ⟨_, List.getElem?_eq_getElem hlt⟩
  have hx2 : ls[((i : Int)).toNat]? = some x := by rw [Int.toNat_natCast]; exact hx
  have hdr : ls.drop i = x :: ls.drop (i + 1) := by
   rw [List.drop_eq_getElem_cons hlt]
   rw [List.getElem?_eq_getElem hlt] at hx
   rw [Option.some.inj hx]
  have hlen : bs.length + 1 ≤ 1048576 := by omega
  obtain ⟨a, hac, hq⟩ := rread_is x (hmem x (List.mem_of_getElem? hx))
  unfold RdIs at hac
  rw [hdr, actsS] at hac0
  cases hra : readA x with
  | some a' =>
   obtain rfl := hq a' hra
   rw [hra] at hac hac0
   have hac1 : actsS (ls.drop (5 + j + 1)) (5 + j + 1) = preA (bs ++ [a]) (actsS (ls.drop (i + 1)) (i + 1)) := hac0.trans (preA_cons bs a _)
   refine qR ?_;iterate 2 refine rC ?_
   refine rQ iE ?_;refine rC ?_;refine nS ?_;refine wT ?_;refine kS ?_;refine wc_seq ?_;refine wc_block ?_;refine sR ?_;iterate 2 refine rC ?_
   refine rQ (index_arr tab_ok rfl rfl rfl rfl rfl (by omega) hx2) ?_;refine rQ iL ?_;refine rQ (call_r hac rfl rfl (arg_e arg_nil) (.inl rfl) (fun _ => rfl)) ?_;iterate 3 refine rC ?_
   refine rN ?_;refine rW ?_;refine rC ?_;refine nQ ?_;refine sR ?_;iterate 2 refine rC ?_
   refine nS ?_;refine wG ?_;refine kS ?_;refine wc_region ?_;refine rC ?_;iterate 2 refine rQ iM ?_
   refine reg_new (build_slice (s := 5) tab_ok rfl rfl rfl rfl rfl rfl rfl rfl) rfl ?_;refine reg_new2 (append_one (xs := bs) (s := 5) (enc := encAct) tab_ok a rfl rfl rfl rfl rfl rfl rfl rfl rfl hlen rfl) rfl ?_
   refine rC ?_;refine reg_store (store_row tab_ok rfl rfl rfl ⟨_, ⟨_, ⟨rfl, rfl, rfl⟩, rfl⟩, rfl⟩ rfl) ?_;refine reg_nil ?_;refine blk_n ?_;refine seq_n ?_;refine wc_region ?_
   refine rC ?_;refine rQ iD ?_;refine rC ?_;refine reg_nil ?_
   exact loop_n (i + 1, bs ++ [a]) [(64, some _), (65, some _), (66, some _), (67, some _)] ⟨hlt, by simp; omega, hac1⟩ (by show ls.length - (i + 1) < ls.length - i; omega) (.of rfl rfl rfl rfl rfl ⟨⟨_, rfl, .refl _⟩, rfl, ⟨_, rfl, .refl _⟩, rfl, ⟨_, rfl, .refl _⟩, rfl, ⟨_, rfl, .refl _⟩, rfl, ⟨_, rfl, .refl _⟩, rfl, trivial⟩ ⟨⟨rfl, rfl, _, rfl, RowLe.of_eq (by rw [rowA, List.length_append]; rfl)⟩, ⟨rfl, rfl, _, rfl, .refl _⟩, ⟨rfl, rfl, _, rfl, .refl _⟩, ⟨rfl, rfl, _, rfl, .refl _⟩, trivial⟩)
  | none =>
   rw [hra] at hac hac0
   rw [hac0]
   refine qR ?_;iterate 2 refine rC ?_
   refine rQ iE ?_;refine rC ?_;refine nS ?_;refine wT ?_;refine kS ?_;refine wc_seq ?_;refine wc_block ?_;refine sR ?_;iterate 2 refine rC ?_
   refine rQ (index_arr tab_ok rfl rfl rfl rfl rfl (by omega) hx2) ?_;refine rQ iL ?_;refine rQ (call_r hac rfl rfl (arg_e arg_nil) (.inl rfl) (fun _ => rfl)) ?_;iterate 3 refine rC ?_
   refine rN ?_;refine rW ?_;refine rC ?_;refine nQ ?_;refine sR ?_;iterate 2 refine rC ?_
   refine nS ?_;refine wV ?_;refine sR ?_;refine rQ iM ?_;refine rC ?_;refine rQ iD ?_;refine rW ?_;iterate 2 refine rC ?_
   refine nS ?_;refine wc_ret ?_;refine seq_r ?_;refine blk_r ?_;refine seq_r ?_;refine loop_r ?_;refine blk_r ?_;refine seq_r ?_
   exact ⟨trivial, _, rfl, [], .of rfl rfl rfl rfl rfl ⟨⟨_, rfl, AVLe.tup1 (AVLe.d z30_leS rfl) rfl⟩, rfl, trivial⟩ trivial⟩
 ·have d7 : decide ((i : Int) < (ls.length : Int)) = false := dF (by omega)
  rw [show ls.drop i = [] from List.drop_eq_nil_of_le (by omega), actsS] at hac0
  rw [hac0]
  simp only [preA, List.append_nil]
  refine wc_freeze (env' := [(15, _), (7, _), (6, _), (5, _), (2, _)]) (h' := [(64, some _), (65, some _), (66, some _)]) 67 _ rfl ⟨⟨_, rfl, .refl _⟩, ⟨_, rfl, .refl _⟩, ⟨_, rfl, .refl _⟩, ⟨_, rfl, .refl _⟩, ⟨_, rfl, .refl _⟩, trivial⟩ ⟨⟨rfl, _, rfl, FrzR.box (Frz.dcons (.refl _) (Frz.dcons (.refl _) (Frz.dcons (Frz.own rfl) (.refl _))))⟩, ⟨rfl, _, rfl, .refl _⟩, ⟨rfl, _, rfl, .refl _⟩, trivial⟩ ?_
  obtain ⟨_, _, hcw⟩ := heads_inv hinv
  have hck := check34_is c l bs hcw.ok (bd_chk p3) (by omega)
  have hle : DLe (.cons (encCfg c) (.cons (.arx 1 encXP l) (.cons (encAs bs) .nil))) (encScr c l bs) := DLe.cons (.refl _) (DLe.cons (xl_le l) (.refl _))
  obtain ⟨e5, he5⟩ : ∃ x, schk c l bs = x := ⟨_, rfl⟩
  rw [he5] at hck ⊢
  by_cases h5z : e5 = 0
  ·subst h5z
   have d8 : (!decide ((0 : Int) = 0)) = false := rfl
   rw [if_neg (fun h => h rfl)]
   refine qR ?_;iterate 2 refine rC ?_
   refine rQ iE ?_;refine rC ?_;refine nS ?_;refine wF ?_;refine wc_exit ?_;refine seq_x ?_;refine loop_x ?_;refine blk_x ?_;refine seq_n ?_;refine qR ?_;refine rQ iM ?_
   refine rQ (call_r hck rfl rfl (arg_d rfl trivial hle arg_nil) (.inl rfl) (fun _ => rfl)) ?_;refine rC ?_;refine nR ?_;iterate 2 refine rC ?_
   refine nS ?_;refine wG ?_;refine kS ?_;refine sR ?_;refine rQ iM ?_;refine rW ?_;iterate 2 refine rC ?_
   refine nS ?_;refine wc_ret ?_
   exact ⟨trivial, _, rfl, [], .of rfl rfl rfl rfl rfl ⟨⟨_, rfl, AVLe.tup1 (AVLe.d hle rfl) rfl⟩, rfl, trivial⟩ trivial⟩
  ·have d8 : (!decide (e5 = 0)) = true := by rw [dF h5z]; rfl
   rw [if_pos h5z]
   refine qR ?_;iterate 2 refine rC ?_
   refine rQ iE ?_;refine rC ?_;refine nS ?_;refine wF ?_;refine wc_exit ?_;refine seq_x ?_;refine loop_x ?_;refine blk_x ?_;refine seq_n ?_;refine qR ?_;refine rQ iM ?_
   refine rQ (call_r hck rfl rfl (arg_d rfl trivial hle arg_nil) (.inl rfl) (fun _ => rfl)) ?_;refine rC ?_;refine nR ?_;iterate 2 refine rC ?_
   refine nS ?_;refine wT ?_;refine sR ?_;refine rQ iM ?_;refine rC ?_;refine rW ?_;iterate 2 refine rC ?_
   refine nS ?_;refine wc_ret ?_;refine seq_r ?_
   exact ⟨trivial, _, rfl, [], .of rfl rfl rfl rfl rfl ⟨⟨_, rfl, AVLe.tup1 (AVLe.d z30_leS rfl) rfl⟩, rfl, trivial⟩ trivial⟩
end Go.Proofs.YthiijfbcfoifnaaGreatDoor
