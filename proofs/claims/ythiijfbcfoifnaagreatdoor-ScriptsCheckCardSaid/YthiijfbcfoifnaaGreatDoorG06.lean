/- Texts of the proof: Z14, Z15, PV0, Eng85, Z16, Z17, Z18, Z19, Z23, ZO. -/
import Derived.Test.YthiijfbcfoifnaaGreatDoorG05
import Derived.Test.YthiijfbcfoifnaaGreatDoorG04
import Derived.Test.YthiijfbcfoifnaaGreatDoorG02

set_option linter.unusedVariables false
set_option linter.unusedSimpArgs false
set_option linter.unusedSectionVars false

namespace Go.Proofs.YthiijfbcfoifnaaGreatDoor
open Go.Eng Go.Plain Go.RowKit
set_option maxHeartbeats 4000000
set_option maxRecDepth 20000
attribute [local irreducible] WC RegS RegD SeqQ BlkQ ScoQ RegK CutK Sat SatN FnIs LoopQ StepIs OpIs
theorem suffix_last (l : List UInt8) (c : UInt8) : Lib.hasSuffix l [c] = decide (l.getLast? = some c) := by
 rw [Bool.eq_iff_iff, decide_eq_true_eq, Lib.hasSuffix, List.isSuffixOf_iff_suffix, List.getLast?_eq_some_iff]
 exact ⟨fun ⟨t, h⟩ => ⟨t, h.symm⟩, fun ⟨t, h⟩ => ⟨t, h.symm⟩⟩
theorem suffix_is {l : List UInt8} (c : UInt8) (hl : l.length ≤ 9223372036854775807) : FnIs Tryz.prog 45 [.d (strD l), .d (strD [c])] [] (.bool (decide (l.getLast? = some c))) [] :=
 .of_calls1 rfl ⟨_, Tryz.func45, by kernel_rfl, by kernel_rfl⟩ fun σ w X vs ha hg => by
  rw [ha.two]
  refine (Tryz.strings_HasSuffix (mkS l) (mkS [c]) w (by rw [mkS_size]; exact hl)).mono ?_
  rintro e w' ⟨rfl, rfl⟩
  exact ⟨by rw [mkS_data, mkS_data, suffix_last], Below.refl _ _⟩
theorem index_is (ls : List (List UInt8)) (v : List UInt8) (hL : ls.length ≤ 1000000000) : FnIs Tryz.prog 48 [.d (.arr 1 strD ls), .d (strD v)] [] (.int .i64 (idxF (fun x => x == v) ls)) [] := by
 refine fnIs_of tab_ok Tryz.func48 rfl rfl rfl ?_;refine sR ?_;refine rC ?_;refine nQ ?_;refine sR ?_;refine rC ?_;refine rQ iE ?_;refine rC ?_;refine nS ?_;refine wc_block ?_
 refine wc_inv (fun i : Nat => ⟨[(8, .int .i64 i), (7, .int .i64 ls.length), (1, .d (strD v)), (0, .d (.arr 1 strD ls))], [], 72, Tryz.f48.ntmps, 64⟩) (fun i => i ≤ ls.length ∧ ∀ j, j < i → ∀ y, ls[j]? = some y → (y == v) = false) (fun i => ls.length - i) 0 [] ⟨Nat.zero_le _, fun j hj => absurd hj (Nat.not_lt_zero _)⟩
  (.of rfl rfl rfl rfl rfl ⟨⟨_, rfl, .refl _⟩, rfl, ⟨_, rfl, .refl _⟩, rfl, ⟨_, rfl, .refl _⟩, rfl, ⟨_, rfl, .refl _⟩, rfl, trivial⟩ trivial) ?_
 rintro i ⟨hi, hno⟩
 refine wc_of ?_;refine sR ?_;refine rC ?_;refine nQ ?_
 by_cases hlt : i < ls.length
 ·have d1 : decide ((i : Int) < (ls.length : Int)) = true := dT (by omega)
  obtain ⟨x, hx⟩ : ∃ x, ls[i]? = some x := ⟨_, List.getElem?_eq_getElem hlt⟩
  have hx2 : ls[((i : Int)).toNat]? = some x := by rw [Int.toNat_natCast]; exact hx
  by_cases he : v = x
  ·have d2 : decide (v = x) = true := dT he
   rw [idxF_some hx (p := fun x => x == v) (by simp [he]) hno]
   refine wT ?_;refine kS ?_;refine wc_seq ?_;refine wc_block ?_;refine sR ?_;iterate 2 refine rC ?_
   refine nR ?_;iterate 3 refine rC ?_
   refine rQ (index_arr tab_ok rfl rfl rfl rfl rfl (by omega) hx2) ?_;refine rQ iL ?_;refine rQ (eql_s (a := v) (b := x) tab_ok rfl rfl rfl) ?_;refine nS ?_;refine wT ?_
   refine sR ?_;iterate 2 refine rC ?_
   refine nS ?_;refine wc_ret ?_;refine blk_r ?_;refine seq_r ?_;refine loop_r ?_;refine blk_r ?_;refine seq_r ?_
   exact ⟨trivial, [], lf⟩
  ·have d2 : decide (v = x) = false := dF he
   refine wT ?_;refine kS ?_;refine wc_seq ?_;refine wc_block ?_;refine sR ?_;iterate 2 refine rC ?_
   refine nR ?_;iterate 3 refine rC ?_
   refine rQ (index_arr tab_ok rfl rfl rfl rfl rfl (by omega) hx2) ?_;refine rQ iL ?_;refine rQ (eql_s (a := v) (b := x) tab_ok rfl rfl rfl) ?_;refine nS ?_;refine wF ?_
   refine wc_skip ?_;refine blk_n ?_;refine seq_n ?_;refine wc_region ?_;refine rQ iD ?_;refine rC ?_;refine reg_nil ?_
   exact loop_n (i + 1) [] ⟨hlt, fun j hj y hy => by
    by_cases e : j = i
    ·subst e; rw [hx] at hy; cases hy; simpa using fun h => he h.symm
    ·exact hno j (by omega) y hy⟩ (by omega) (.of rfl rfl rfl rfl rfl ⟨⟨_, rfl, .refl _⟩, rfl, ⟨_, rfl, .refl _⟩, rfl, ⟨_, rfl, .refl _⟩, rfl, ⟨_, rfl, .refl _⟩, rfl, trivial⟩ trivial)
 ·have he : i = ls.length := by omega
  subst he
  have d1 : decide ((ls.length : Int) < (ls.length : Int)) = false := dF (by omega)
  rw [idxF_none (p := fun x => x == v) (fun j y hy => hno j ((List.getElem?_eq_some_iff.1 hy).1) y hy)]
  refine wF ?_;refine wc_exit ?_;refine seq_x ?_;refine loop_x ?_;refine blk_x ?_;refine seq_n ?_;refine sR ?_;refine rC ?_;refine nS ?_;refine wc_ret ?_
  exact ⟨trivial, [], lf⟩
theorem clipA_is (l : List SAct) : FnIs Tryz.prog 50 [.d (encAs l)] [] (.d (encXAs l)) [] := by
 refine fnIs_of tab_ok Tryz.func50 rfl rfl rfl ?_;refine sR ?_;refine rC ?_;refine nR ?_;iterate 2 refine rC ?_
 refine rQ iE ?_;refine rC ?_;refine rQ iE ?_;refine rQ (slice_clip_arr tab_ok rfl rfl rfl rfl rfl) ?_;refine rC ?_;refine nS ?_;refine wc_ret ?_
 exact ⟨trivial, [], lf⟩
end Go.Proofs.YthiijfbcfoifnaaGreatDoor
namespace Go.Proofs.YthiijfbcfoifnaaGreatDoor
open Go.Eng Go.Plain
set_option maxHeartbeats 8000000
set_option maxRecDepth 20000
attribute [local irreducible] WC RegS RegD SeqQ BlkQ ScoQ RegK CutK Sat SatN FnIs LoopQ StepIs OpIs
abbrev encScrX (c : SCfg) (l : List (List POp)) (bs : List SAct) : D := .cons (encCfg c) (.cons (.arx 1 encXP l) (.cons (encXAs bs) .nil))
abbrev parSA (x : SScr) (n : Nat) (e : Int) : AV := .tup (.acons (.d (encScrX x.1 x.2.1 x.2.2)) (.acons (.int .i64 n) (.acons (.d (i6 e)) .anil)))
theorem z30_le : DLe r30.zero (encScrX zCfg [] []) := DLe.cons (DLe.of_eq rfl) (DLe.cons (DLe.nil_arx _ _) (DLe.cons (DLe.nil_arx _ _) (.refl _)))
theorem xl_le (l : List (List POp)) : DLe (.arx 1 encXP l) (encPL l) := fun _ _ cs h => Enc.arx_arr (fun _ c hc => Enc.arx_arr (fun _ _ h => h) c hc) cs h
theorem split3 {t : TypeId} {a b x r : D} : RowLe (.box t (.d (.cons a (.cons b (.cons x r))))) (.box t (.acons (.d a) (.acons (.d b) (.acons (.d x) (.d r))))) := by
 rintro σ w X q ⟨_, b', cs, h1, h2, h3⟩
 exact ⟨rfl, b', cs, h1, h2, h3⟩
theorem sparse_long (t : List UInt8) (h : 1048576 < t.length) : FnIs Tryz.prog 15 [.d (strD t)] [] (parSA zScr 0 3) [] := by
 have hd : decide (1048576 < (t.length : Int)) = true := dT (by omega)
 refine fnIs_of tab_ok Tryz.func15 rfl rfl rfl ?_;refine sR ?_;refine rN ?_;iterate 2 refine rC ?_
 refine nQ ?_;refine sR ?_;refine rC ?_;refine rQ (len_s tab_ok rfl rfl) ?_;refine rC ?_;refine nS ?_;refine wT ?_;refine sR ?_;refine rQ iS ?_;refine rW ?_;iterate 2 refine rC ?_
 refine nS ?_;refine wc_ret ?_;refine seq_r ?_
 exact ⟨trivial, _, rfl, [], .of rfl rfl rfl rfl rfl ⟨⟨_, rfl, AVLe.tup1 (AVLe.d z30_le rfl) rfl⟩, rfl, trivial⟩ trivial⟩
theorem sparse_nosuf (t : List UInt8) (h : t.length ≤ 1048576) (hlast : t.getLast? ≠ some 10) : FnIs Tryz.prog 15 [.d (strD t)] [] (parSA zScr 0 5) [] := by
 have hd : decide (1048576 < (t.length : Int)) = false := dF (by omega)
 have hsuf := suffix_is (l := t) 10 (by omega)
 rw [dF hlast] at hsuf
 refine fnIs_of tab_ok Tryz.func15 rfl rfl rfl ?_;refine sR ?_;refine rN ?_;iterate 2 refine rC ?_
 refine nQ ?_;refine sR ?_;refine rC ?_;refine rQ (len_s tab_ok rfl rfl) ?_;refine rC ?_;refine nS ?_;refine wF ?_;refine kS ?_;refine qR ?_;refine rC ?_;refine rQ (call_r hsuf rfl rfl (arg_e (arg_e arg_nil)) (.inl rfl) (fun _ => rfl)) ?_
 refine rC ?_;refine nS ?_;refine wV ?_;refine sR ?_;refine rQ iS ?_;refine rW ?_;iterate 2 refine rC ?_
 refine nS ?_;refine wc_ret ?_;refine seq_r ?_
 exact ⟨trivial, _, rfl, [], .of rfl rfl rfl rfl rfl ⟨⟨_, rfl, AVLe.tup1 (AVLe.d z30_le rfl) rfl⟩, rfl, trivial⟩ trivial⟩
theorem linesT_app (a b : List (List UInt8)) : linesT (a ++ b) = linesT a ++ linesT b := by simp [linesT]
theorem linesT_take (l : List (List UInt8)) (i : Nat) : (linesT (l.take i)).length ≤ (linesT l).length := by
 have := congrArg List.length (linesT_app (l.take i) (l.drop i))
 rw [List.take_append_drop, List.length_append] at this
 omega
theorem linesT_drop (l : List (List UInt8)) (i : Nat) : (linesT (l.drop i)).length ≤ (linesT l).length := by
 have := congrArg List.length (linesT_app (l.take i) (l.drop i))
 rw [List.take_append_drop, List.length_append] at this
 omega
def preA (bs : List SAct) : List SAct ⊕ Nat → List SAct ⊕ Nat
 | .inl l => .inl (bs ++ l)
 | .inr j => .inr j
theorem preA_nil (x : List SAct ⊕ Nat) : preA [] x = x := by cases x <;> rfl
theorem preA_cons (bs : List SAct) (a : SAct) (x : List SAct ⊕ Nat) : preA bs (match x with
  | .inl l => .inl (a :: l)
  | .inr j => .inr j) = preA (bs ++ [a]) x := by cases x <;> simp [preA]
theorem parse_num : ∀ (k : Nat) (s : List UInt8) (l m : List (List POp)) (n j : Nat) (e : Int), s.length ≤ k → parseP s l n = (m, j, e) → j ≤ n + s.length := by
 intro k
 induction k with
 | zero =>
  intro s l m n j e hs h
  have : s = [] := List.length_eq_zero_iff.1 (by omega)
  subst this
  rw [parseP_nil] at h
  cases h
  omega
 | succ k ih =>
  intro s l m n j e hs h
  by_cases hs0 : s = []
  ·subst hs0
   rw [parseP_nil] at h
   cases h
   omega
  ·cases hcut : cutL s 10 with
   | none => rw [parseP_none l _ hs0 hcut] at h; cases h; omega
   | some pq =>
    obtain ⟨t, r⟩ := pq
    rw [parseP_some l _ hs0 hcut] at h
    have hsr := congrArg List.length (cutL_some hcut).1
    simp only [List.length_append, List.length_cons] at hsr
    split at h
    ·have := ih r _ m _ j e (by omega) h
     omega
    ·cases h; omega
abbrev R0 : D := .cons (.sc nil_) (.cons (.sc nil_) .nil)
abbrev rowA (c : SCfg) (l : List (List POp)) (bs : List SAct) (r : Nat) : Row := .box 30 (.acons (.d (encCfg c)) (.acons (.d (.arx 1 encXP l)) (.acons (.own r 0 bs.length 5 none) (.d .nil))))
theorem sparse_main (t : List UInt8) (h : t.length ≤ 1048576) (hlast : t.getLast? = some 10) : FnIs Tryz.prog 15 [.d (strD t)] [] (parSA (parseLs (splitL t.dropLast 10)).1 (parseLs (splitL t.dropLast 10)).2.1 (parseLs (splitL t.dropLast 10)).2.2) [] := by
 have hd : decide (1048576 < (t.length : Int)) = false := dF (by omega)
 have hsuf := suffix_is (l := t) 10 (by omega)
 rw [dT hlast] at hsuf
 have hpos : 0 < t.length := by
  cases t with
  | nil => cases hlast
  | cons a l => simp
 have hdlen : t.dropLast.length = t.length - 1 := List.length_dropLast
 have hw1 : IntKind.i64.wrap ((t.length : Int) - 1) = ((t.length - 1 : Nat) : Int) := by rw [wrap_i64 (by omega) (by omega)]; omega
 have hdl : t.take (t.length - 1) = t.dropLast := List.dropLast_eq_take.symm
 have hsp := split_is (l := t.dropLast) (c := 10) (by omega)
 have hall := split_all 10 t.dropLast
 rw [← last_drop hlast] at hall
 have hlsn := splitL_len t.dropLast 10
 have hmem : ∀ w ∈ splitL t.dropLast 10, w.length ≤ 1048576 := fun w hw => by have := split_mem_le t.dropLast 10 w hw; omega
 obtain ⟨ls, hls⟩ : ∃ ls, splitL t.dropLast 10 = ls := ⟨_, rfl⟩
 rw [hls] at hsp hall hlsn hmem ⊢
 have hTls : linesT ls = t := hall
 have hlsn : ls.length ≤ 1048576 := by omega
 clear hall hls
 refine fnIs_of tab_ok Tryz.func15 rfl rfl rfl ?_;refine sR ?_;refine rN ?_;iterate 2 refine rC ?_
 refine nQ ?_;refine sR ?_;refine rC ?_;refine rQ (len_s tab_ok rfl rfl) ?_;refine rC ?_;refine nS ?_;refine wF ?_;refine kS ?_;refine qR ?_;refine rC ?_;refine rQ (call_r hsuf rfl rfl (arg_e (arg_e arg_nil)) (.inl rfl) (fun _ => rfl)) ?_
 refine rC ?_;refine nS ?_;refine wG ?_;refine kS ?_;refine sR ?_;iterate 2 refine rC ?_
 refine rQ (len_s tab_ok rfl rfl) ?_;refine rQ (sub_int (m := ((t.length - 1 : Nat) : Int)) tab_ok rfl rfl hw1) ?_;refine rQ (str_to (l := t) (hi := t.length - 1) (m := t.dropLast) tab_ok rfl rfl rfl (by omega) hdl) ?_
 refine rQ (call_r hsp rfl rfl (arg_e (arg_e arg_nil)) (.inl rfl) (fun _ => rfl)) ?_;refine rC ?_;refine nQ ?_;refine sR ?_;refine rC ?_;refine nS ?_;refine wc_block ?_
 refine wc_inv (fun x : Nat × SCfg => ⟨[(31, .int .i64 x.1), (5, .d (.arr 1 strD ls)), (2, .ptr 64 [])], [(64, some (rowC x.2 R0))], 72, Tryz.f15.ntmps, 64⟩) (fun x => x.1 ≤ 5 ∧ x.1 ≤ ls.length ∧ headsS 5 0 ls zCfg = headsS (5 - x.1) x.1 (ls.drop x.1) x.2) (fun x => 5 - x.1) (0, zCfg) [(64, some _)] ⟨Nat.zero_le _, Nat.zero_le _, rfl⟩
  (.of rfl rfl rfl rfl rfl ⟨⟨_, rfl, .refl _⟩, rfl, ⟨_, rfl, .refl _⟩, rfl, ⟨_, rfl, .refl _⟩, rfl, trivial⟩ ⟨⟨rfl, rfl, _, rfl, RowLe.of_eq rfl⟩, trivial⟩) ?_
 rintro ⟨i, c⟩ ⟨hi5, hil, hinv⟩
 simp only at hi5 hil hinv
 refine wc_of ?_
 by_cases hi : i < 5
 ·have d1 : decide ((i : Int) < 5) = true := dT (by omega)
  obtain ⟨f, hf⟩ : ∃ f, 5 - i = f + 1 := ⟨4 - i, by omega⟩
  by_cases hlt : i < ls.length
  ·have d2 : decide ((ls.length : Int) ≤ (i : Int)) = false := dF (by omega)
   obtain ⟨x, hx⟩ : ∃ x, ls[i]? = some x := ⟨_, List.getElem?_eq_getElem hlt⟩
   have hx2 : ls[((i : Int)).toNat]? = some x := by rw [Int.toNat_natCast]; exact hx
   have hdr : ls.drop i = x :: ls.drop (i + 1) := by
    rw [List.drop_eq_getElem_cons hlt]
    rw [List.getElem?_eq_getElem hlt] at hx
    rw [Option.some.inj hx]
   obtain ⟨res, c', hh, hq⟩ := head_is i hi x c R0 (hmem x (List.mem_of_getElem? hx))
   rw [hf, hdr, headsS, hq] at hinv
   unfold HeadIs at hh
   cases res with
   | true =>
    refine sR ?_;refine rC ?_;refine nQ ?_;refine wT ?_;refine kS ?_;refine wc_seq ?_;refine wc_block ?_;refine sR ?_;iterate 2 refine rC ?_
    refine nR ?_;iterate 2 refine rC ?_
    refine rQ iE ?_;iterate 2 refine rC ?_
    refine rO ?_;refine rC ?_;refine rO ?_;refine rC ?_;refine rO ?_;refine rC ?_;refine rO ?_;refine rQ (index_arr tab_ok rfl rfl rfl rfl rfl (by omega) hx2) ?_;refine rO ?_
    refine rQ iL ?_;refine rO ?_;refine rC ?_;refine rO ?_;refine reg_new2 (call_h [(0, some 64)] hh rfl rfl rfl (arg_e (arg_e (arg_ptr rfl rfl arg_nil))) ⟨⟨rfl, rfl, _, _, rfl, rfl, .refl _⟩, trivial⟩ rfl rfl (.inl rfl) rfl rfl) rfl ?_
    refine rO ?_;refine rC ?_;refine rQ iF ?_;refine nS ?_;refine wG ?_;refine wc_skip ?_;refine blk_n ?_;refine seq_n ?_;refine wc_region ?_;refine rQ iD ?_;refine rC ?_
    refine reg_nil ?_
    exact loop_n (i + 1, c') [] ⟨hi, hlt, by rw [hinv, if_pos rfl]; show headsS f (i + 1) _ _ = headsS (5 - (i + 1)) (i + 1) _ _; rw [show 5 - (i + 1) = f by omega]⟩ (by show 5 - (i + 1) < 5 - i; omega) (.of rfl rfl rfl rfl rfl ⟨⟨_, rfl, .refl _⟩, rfl, ⟨_, rfl, .refl _⟩, rfl, ⟨_, rfl, .refl _⟩, rfl, trivial⟩ ⟨⟨rfl, rfl, _, rfl, .refl _⟩, trivial⟩)
   | false =>
    rw [show parseLs ls = (zScr, i + 1, 5) by unfold parseLs; rw [hinv, if_neg (by decide)]]
    refine sR ?_;refine rC ?_;refine nQ ?_;refine wT ?_;refine kS ?_;refine wc_seq ?_;refine wc_block ?_;refine sR ?_;iterate 2 refine rC ?_
    refine nR ?_;iterate 2 refine rC ?_
    refine rQ iE ?_;iterate 2 refine rC ?_
    refine rO ?_;refine rC ?_;refine rO ?_;refine rC ?_;refine rO ?_;refine rC ?_;refine rO ?_;refine rQ (index_arr tab_ok rfl rfl rfl rfl rfl (by omega) hx2) ?_;refine rO ?_
    refine rQ iL ?_;refine rO ?_;refine rC ?_;refine rO ?_;refine reg_new2 (call_h [(0, some 64)] hh rfl rfl rfl (arg_e (arg_e (arg_ptr rfl rfl arg_nil))) ⟨⟨rfl, rfl, _, _, rfl, rfl, .refl _⟩, trivial⟩ rfl rfl (.inl rfl) rfl rfl) rfl ?_
    refine rO ?_;refine rC ?_;refine rQ iF ?_;refine nS ?_;refine wV ?_;refine sR ?_;refine rQ iS ?_;refine rC ?_;refine rQ iD ?_;refine rW ?_;iterate 2 refine rC ?_
    refine nS ?_;refine wc_ret ?_;refine blk_r ?_;refine seq_r ?_;refine loop_r ?_;refine blk_r ?_;refine seq_r ?_
    exact ⟨trivial, _, rfl, [], .of rfl rfl rfl rfl rfl ⟨⟨_, rfl, AVLe.tup1 (AVLe.d z30_le rfl) rfl⟩, rfl, trivial⟩ trivial⟩
  ·have d2 : decide ((ls.length : Int) ≤ (i : Int)) = true := dT (by omega)
   rw [hf, List.drop_eq_nil_of_le (by omega), headsS] at hinv
   rw [show parseLs ls = (zScr, i + 1, 5) by unfold parseLs; rw [hinv]]
   refine sR ?_;refine rC ?_;refine nQ ?_;refine wT ?_;refine kS ?_;refine wc_seq ?_;refine wc_block ?_;refine sR ?_;iterate 2 refine rC ?_
   refine nR ?_;iterate 2 refine rC ?_
   refine rQ iE ?_;iterate 2 refine rC ?_
   iterate 8 refine rS ?_
   refine rQ iT ?_;refine nS ?_;refine wV ?_;refine sR ?_;refine rQ iS ?_;refine rC ?_;refine rQ iD ?_;refine rW ?_;iterate 2 refine rC ?_
   refine nS ?_;refine wc_ret ?_;refine blk_r ?_;refine seq_r ?_;refine loop_r ?_;refine blk_r ?_;refine seq_r ?_
   exact ⟨trivial, _, rfl, [], .of rfl rfl rfl rfl rfl ⟨⟨_, rfl, AVLe.tup1 (AVLe.d z30_le rfl) rfl⟩, rfl, trivial⟩ trivial⟩
 have hi5 : i = 5 := by omega
 subst hi5
 have d1 : decide (((5 : Nat) : Int) < 5) = false := rfl
 have h5 := hil
 have hinv : headsS 5 0 ls zCfg = .inl c := hinv
 have hix := index_is (ls.drop 5) sActions (by rw [List.length_drop]; omega)
 cases hk : (ls.drop 5).findIdx? (fun x => x == sActions) with
 | none =>
  simp only [idxF, hk] at hix
  rw [show parseLs ls = (zScr, ls.length + 1, 5) by unfold parseLs; rw [hinv]; simp only [hk]]
  have d2 : decide ((-1 : Int) < 0) = true := rfl
  refine sR ?_;refine rC ?_;refine nQ ?_;refine wG ?_;refine wc_exit ?_;refine seq_x ?_;refine loop_x ?_;refine blk_x ?_;refine seq_n ?_;refine sR ?_;refine rC ?_
  refine rQ (slice_from (m := 5) tab_ok rfl rfl rfl rfl rfl h5) ?_;refine rQ (call_r hix rfl rfl (arg_e (arg_e arg_nil)) (.inl rfl) (fun _ => rfl)) ?_;refine rC ?_
  refine nQ ?_;refine sR ?_;iterate 2 refine rC ?_
  refine nS ?_;refine wV ?_;refine sR ?_;refine rQ iS ?_;refine rC ?_;refine rQ iE ?_;refine rQ iD ?_;refine rW ?_;iterate 2 refine rC ?_
  refine nS ?_;refine wc_ret ?_;refine seq_r ?_
  exact ⟨trivial, _, rfl, [], .of rfl rfl rfl rfl rfl ⟨⟨_, rfl, AVLe.tup1 (AVLe.d z30_le rfl) rfl⟩, rfl, trivial⟩ trivial⟩
 | some k =>
 simp only [idxF, hk] at hix
 have hkl : k < ls.length - 5 := by
  have := (List.findIdx?_eq_some_iff_getElem.1 hk).1
  rwa [List.length_drop] at this
 have h5k : 5 + k ≤ ls.length := by omega
 have d2 : decide ((k : Int) < 0) = false := dF (by omega)
 refine sR ?_;refine rC ?_;refine nQ ?_;refine wG ?_;refine wc_exit ?_;refine seq_x ?_;refine loop_x ?_;refine blk_x ?_;refine seq_n ?_;refine sR ?_;refine rC ?_
 refine rQ (slice_from (m := 5) tab_ok rfl rfl rfl rfl rfl h5) ?_;refine rQ (call_r hix rfl rfl (arg_e (arg_e arg_nil)) (.inl rfl) (fun _ => rfl)) ?_;refine rC ?_
 refine nQ ?_;refine sR ?_;iterate 2 refine rC ?_
 refine nS ?_;refine wG ?_;refine kS ?_;refine sR ?_;refine rC ?_;refine nQ ?_;refine sR ?_;iterate 2 refine rC ?_
 refine rQ iD ?_;refine rQ (slice_mid (m := 5) (q := 5 + k) tab_ok rfl rfl rfl rfl rfl rfl (by omega) h5k) ?_;refine rQ iE ?_;refine rC ?_;refine nS ?_;refine wc_block ?_
 obtain ⟨mid, hmid⟩ : ∃ m, (ls.drop 5).take (5 + k - 5) = m := ⟨_, rfl⟩
 rw [hmid]
 have hmid2 : mid = (ls.drop 5).take k := by rw [← hmid, show 5 + k - 5 = k by omega]
 have hmlen : (linesT mid).length ≤ t.length := by
  rw [hmid2, ← hTls]
  exact Nat.le_trans (linesT_take _ _) (linesT_drop _ _)
 have hml : mid.length ≤ 1048576 := by rw [hmid2, List.length_take, List.length_drop]; omega
 have hmem2 : ∀ w ∈ mid, w.length ≤ 1048576 := fun w hw => hmem w (by rw [hmid2] at hw; exact List.mem_of_mem_drop (List.mem_of_mem_take hw))
 refine wc_inv (fun j : Nat => ⟨[(66, .int .i64 j), (65, .int .i64 mid.length), (64, .d (.arr 1 strD mid)), (8, .d (strD (linesT (mid.take j)))), (7, .int .i64 k), (5, .d (.arr 1 strD ls)), (2, .ptr 64 [])], [(64, some (rowC c R0))], 72, Tryz.f15.ntmps, 64⟩) (fun j => j ≤ mid.length) (fun j => mid.length - j) 0 [] (Nat.zero_le _)
  (.of rfl rfl rfl rfl rfl ⟨⟨_, rfl, .refl _⟩, rfl, ⟨_, rfl, .refl _⟩, rfl, ⟨_, rfl, .refl _⟩, rfl, ⟨_, rfl, .refl _⟩, rfl, ⟨_, rfl, .refl _⟩, rfl, ⟨_, rfl, .refl _⟩, rfl, ⟨_, rfl, .refl _⟩, rfl, trivial⟩ ⟨⟨rfl, rfl, _, rfl, .refl _⟩, trivial⟩) ?_
 intro j hj
 refine wc_of ?_
 by_cases hjl : j < mid.length
 ·have d3 : decide ((j : Int) < (mid.length : Int)) = true := dT (by omega)
  obtain ⟨x, hx⟩ : ∃ x, mid[j]? = some x := ⟨_, List.getElem?_eq_getElem hjl⟩
  have hx2 : mid[((j : Int)).toNat]? = some x := by rw [Int.toNat_natCast]; exact hx
  have hxl := hmem2 x (List.mem_of_getElem? hx)
  have htk := linesT_take mid j
  have hl72 : x.length + [(10 : UInt8)].length ≤ 9223372036854775807 := by simp; omega
  have hl73 : (linesT (mid.take j)).length + (x ++ [10]).length ≤ 9223372036854775807 := by simp; omega
  have hm73 : linesT (mid.take j) ++ (x ++ [10]) = linesT (mid.take (j + 1)) := by rw [List.take_add_one, hx, Option.toList_some, linesT_app]; simp [linesT]
  refine sR ?_;refine rC ?_;refine nQ ?_;refine wT ?_;refine kS ?_;refine wc_seq ?_;refine wc_block ?_;refine sR ?_;refine rQ (index_arr tab_ok rfl rfl rfl rfl rfl (by omega) hx2) ?_
  refine rQ iL ?_;refine rC ?_;refine nS ?_;refine wc_region ?_;iterate 2 refine rC ?_
  refine rQ (add_str (a := x) (b := [10]) rfl rfl hl72 rfl) ?_;refine rQ (add_str (a := linesT (mid.take j)) (b := x ++ [10]) rfl rfl hl73 hm73) ?_;refine rC ?_;refine reg_nil ?_
  refine blk_n ?_;refine seq_n ?_;refine wc_region ?_;refine rQ iD ?_;refine rC ?_;refine reg_nil ?_
  exact loop_n (j + 1) [] hjl (by omega) (.of rfl rfl rfl rfl rfl ⟨⟨_, rfl, .refl _⟩, rfl, ⟨_, rfl, .refl _⟩, rfl, ⟨_, rfl, .refl _⟩, rfl, ⟨_, rfl, .refl _⟩, rfl, ⟨_, rfl, .refl _⟩, rfl, ⟨_, rfl, .refl _⟩, rfl, ⟨_, rfl, .refl _⟩, rfl, trivial⟩ ⟨⟨rfl, rfl, _, rfl, .refl _⟩, trivial⟩)
 have hje : j = mid.length := by omega
 subst hje
 have d3 : decide ((mid.length : Int) < (mid.length : Int)) = false := dF (by omega)
 rw [List.take_length]
 have hpp := parse_is (linesT mid) (by omega)
 obtain ⟨⟨l, n, e⟩, hpe⟩ : ∃ x, parseP (linesT mid) [] 1 = x := ⟨_, rfl⟩
 rw [hpe] at hpp
 simp only at hpp
 have hfd : (ls.drop 5).findIdx? (· == sActions) = some k := hk
 have hpl : parseLs ls = if e ≠ 0 then (zScr, n + 5, e) else match actsS (ls.drop (6 + k)) (6 + k) with
    | .inr i => (zScr, i + 1, 5)
    | .inl bs => if schk c l bs ≠ 0 then (zScr, 0, schk c l bs) else ((c, l, bs), 0, 0) := by
  unfold parseLs
  rw [hinv]
  simp only [hfd]
  rw [← hmid2, hpe]
  rfl
 by_cases he : e = 0
 ·subst he
  have d4 : (!decide ((0 : Int) = 0)) = false := rfl
  rw [hpl, if_neg (fun h => h rfl)]
  obtain ⟨p1, p2, p3, p4⟩ := parse_out _ _ [] _ 1 _ (Nat.le_refl _) (by decide) (by intro p hp; cases hp) hpe
  refine sR ?_;refine rC ?_;refine nQ ?_;refine wF ?_;refine wc_exit ?_;refine seq_x ?_;refine loop_x ?_;refine blk_x ?_;refine seq_n ?_;refine sR ?_;refine rC ?_
  refine rQ (call_r hpp rfl rfl (arg_e arg_nil) (.inl rfl) (fun _ => rfl)) ?_;iterate 7 refine rC ?_
  refine nQ ?_;refine sR ?_;iterate 2 refine rC ?_
  refine nS ?_;refine wG ?_;refine kS ?_;refine sR ?_;iterate 2 refine rC ?_
  refine rX ?_;refine nQ ?_;refine sR ?_;refine rC ?_;refine rQ iD ?_;refine rC ?_;refine nS ?_;refine wc_block ?_
  refine wc_inv (fun x : Nat × List SAct => ⟨[(13, .int .i64 x.1), (5, .d (.arr 1 strD ls)), (2, .ptr 64 [])], [(64, some (rowA c l x.2 65)), (65, some (.ds 39 5 false encAct x.2))], 72, Tryz.f15.ntmps, 64⟩) (fun x => x.1 ≤ ls.length ∧ x.2.length ≤ x.1 ∧ actsS (ls.drop (6 + k)) (6 + k) = preA x.2 (actsS (ls.drop x.1) x.1)) (fun x => ls.length - x.1) (6 + k, []) [(65, none)] ⟨by show 6 + k ≤ ls.length; omega, Nat.zero_le _, (preA_nil _).symm⟩
   (.of rfl rfl rfl rfl rfl ⟨⟨_, rfl, .refl _⟩, rfl, ⟨_, rfl, .refl _⟩, rfl, ⟨_, rfl, .refl _⟩, rfl, trivial⟩ ⟨⟨rfl, rfl, _, rfl, split3⟩, ⟨rfl, rfl, rfl⟩, trivial⟩) ?_
  rintro ⟨i, bs⟩ ⟨hi, hbi, hac0⟩
  simp only at hi hbi hac0
  refine wc_of ?_
  by_cases hlt : i < ls.length
  ·have d5 : decide ((i : Int) < (ls.length : Int)) = true := dT (by omega)
   obtain ⟨x, hx⟩ : ∃ x, ls[i]? = some x := ⟨_, List.getElem?_eq_getElem hlt⟩
   have hx2 : ls[((i : Int)).toNat]? = some x := by rw [Int.toNat_natCast]; exact hx
   have hdr : ls.drop i = x :: ls.drop (i + 1) := by
    rw [List.drop_eq_getElem_cons hlt]
    rw [List.getElem?_eq_getElem hlt] at hx
    rw [Option.some.inj hx]
   have hlen : bs.length + 1 ≤ 1048576 := by omega
   obtain ⟨a, res, hac, hq⟩ := act_is x (hmem x (List.mem_of_getElem? hx))
   unfold ActIs at hac
   rw [hdr, actsS, hq] at hac0
   cases res with
   | true =>
    rw [if_pos rfl] at hac0
    have hac1 : actsS (ls.drop (6 + k)) (6 + k) = preA (bs ++ [a]) (actsS (ls.drop (i + 1)) (i + 1)) := hac0.trans (preA_cons bs a _)
    refine qR ?_;iterate 2 refine rC ?_
    refine rQ iE ?_;refine rC ?_;refine nS ?_;refine wT ?_;refine kS ?_;refine wc_seq ?_;refine wc_block ?_;refine sR ?_;iterate 2 refine rC ?_
    refine rQ (index_arr tab_ok rfl rfl rfl rfl rfl (by omega) hx2) ?_;refine rQ iL ?_;refine rQ (call_r hac rfl rfl (arg_e arg_nil) (.inl rfl) (fun _ => rfl)) ?_;iterate 3 refine rC ?_
    refine rN ?_;refine rW ?_;refine rC ?_;refine nQ ?_;refine sR ?_;iterate 2 refine rC ?_
    refine nS ?_;refine wG ?_;refine kS ?_;refine wc_region ?_;refine rC ?_;iterate 2 refine rQ iM ?_
    refine reg_new (build_slice (s := 5) tab_ok rfl rfl rfl rfl rfl rfl rfl rfl) rfl ?_;refine reg_new2 (append_one (xs := bs) (s := 5) (enc := encAct) tab_ok a rfl rfl rfl rfl rfl rfl rfl rfl rfl hlen rfl) rfl ?_
    refine rC ?_;refine reg_store (store_row tab_ok rfl rfl rfl ⟨_, ⟨_, ⟨rfl, rfl, rfl⟩, rfl⟩, rfl⟩ rfl) ?_;refine reg_nil ?_;refine blk_n ?_;refine seq_n ?_;refine wc_region ?_
    refine rC ?_;refine rQ iD ?_;refine rC ?_;refine reg_nil ?_
    exact loop_n (i + 1, bs ++ [a]) [(65, some 240)] ⟨hlt, by simp; omega, hac1⟩ (by show ls.length - (i + 1) < ls.length - i; omega) (.of rfl rfl rfl rfl rfl ⟨⟨_, rfl, .refl _⟩, rfl, ⟨_, rfl, .refl _⟩, rfl, ⟨_, rfl, .refl _⟩, rfl, trivial⟩ ⟨⟨rfl, rfl, _, rfl, RowLe.of_eq (by rw [rowA, List.length_append]; rfl)⟩, ⟨rfl, rfl, _, rfl, .refl _⟩, trivial⟩)
   | false =>
    rw [if_neg (by decide)] at hac0
    rw [hac0]
    refine qR ?_;iterate 2 refine rC ?_
    refine rQ iE ?_;refine rC ?_;refine nS ?_;refine wT ?_;refine kS ?_;refine wc_seq ?_;refine wc_block ?_;refine sR ?_;iterate 2 refine rC ?_
    refine rQ (index_arr tab_ok rfl rfl rfl rfl rfl (by omega) hx2) ?_;refine rQ iL ?_;refine rQ (call_r hac rfl rfl (arg_e arg_nil) (.inl rfl) (fun _ => rfl)) ?_;iterate 3 refine rC ?_
    refine rN ?_;refine rW ?_;refine rC ?_;refine nQ ?_;refine sR ?_;iterate 2 refine rC ?_
    refine nS ?_;refine wV ?_;refine sR ?_;refine rQ iS ?_;refine rC ?_;refine rQ iD ?_;refine rW ?_;iterate 2 refine rC ?_
    refine nS ?_;refine wc_ret ?_;refine seq_r ?_;refine blk_r ?_;refine seq_r ?_;refine loop_r ?_;refine blk_r ?_;refine seq_r ?_
    exact ⟨trivial, _, rfl, [], .of rfl rfl rfl rfl rfl ⟨⟨_, rfl, AVLe.tup1 (AVLe.d z30_le rfl) rfl⟩, rfl, trivial⟩ trivial⟩
  ·have d5 : decide ((i : Int) < (ls.length : Int)) = false := dF (by omega)
   rw [show ls.drop i = [] from List.drop_eq_nil_of_le (by omega), actsS] at hac0
   rw [hac0]
   simp only [preA, List.append_nil]
   refine wc_freeze (env' := [(13, _), (5, _), (2, _)]) (h' := [(64, some _)]) 65 _ rfl ⟨⟨_, rfl, .refl _⟩, ⟨_, rfl, .refl _⟩, ⟨_, rfl, .refl _⟩, trivial⟩ ⟨⟨rfl, _, rfl, FrzR.box (Frz.dcons (.refl _) (Frz.dcons (.refl _) (Frz.dcons (Frz.own rfl) (.refl _))))⟩, trivial⟩ ?_
   obtain ⟨_, _, hcw⟩ := heads_inv hinv
   have hck := scheck_is c l bs hcw.ok (bd_chk p3) (by omega)
   have hle : DLe (.cons (encCfg c) (.cons (.arx 1 encXP l) (.cons (encAs bs) .nil))) (encScr c l bs) := DLe.cons (.refl _) (DLe.cons (xl_le l) (.refl _))
   have hcl := clipA_is bs
   obtain ⟨e5, he5⟩ : ∃ x, schk c l bs = x := ⟨_, rfl⟩
   rw [he5] at hck ⊢
   by_cases h5z : e5 = 0
   ·subst h5z
    have d6 : (!decide ((0 : Int) = 0)) = false := rfl
    rw [if_neg (fun h => h rfl)]
    refine qR ?_;iterate 2 refine rC ?_
    refine rQ iE ?_;refine rC ?_;refine nS ?_;refine wF ?_;refine wc_exit ?_;refine seq_x ?_;refine loop_x ?_;refine blk_x ?_;refine seq_n ?_;refine qR ?_;refine rQ iM ?_
    refine rQ (call_r hck rfl rfl (arg_d rfl trivial hle arg_nil) (.inl rfl) (fun _ => rfl)) ?_;refine rC ?_;refine nR ?_;iterate 2 refine rC ?_
    refine nS ?_;refine wG ?_;refine kS ?_;refine sR ?_;refine rC ?_;refine rQ iB ?_;refine rQ (call_r hcl rfl rfl (arg_e arg_nil) (.inl rfl) (fun _ => rfl)) ?_;refine rC ?_
    refine rX ?_;refine nR ?_;refine rQ iM ?_;refine rW ?_;iterate 2 refine rC ?_
    refine nS ?_;refine wc_ret ?_
    exact ⟨trivial, _, rfl, [], lf⟩
   ·have d6 : (!decide (e5 = 0)) = true := by rw [dF h5z]; rfl
    rw [if_pos h5z]
    refine qR ?_;iterate 2 refine rC ?_
    refine rQ iE ?_;refine rC ?_;refine nS ?_;refine wF ?_;refine wc_exit ?_;refine seq_x ?_;refine loop_x ?_;refine blk_x ?_;refine seq_n ?_;refine qR ?_;refine rQ iM ?_
    refine rQ (call_r hck rfl rfl (arg_d rfl trivial hle arg_nil) (.inl rfl) (fun _ => rfl)) ?_;refine rC ?_;refine nR ?_;iterate 2 refine rC ?_
    refine nS ?_;refine wT ?_;refine sR ?_;refine rQ iS ?_;refine rC ?_;refine rW ?_;iterate 2 refine rC ?_
    refine nS ?_;refine wc_ret ?_;refine seq_r ?_
    exact ⟨trivial, _, rfl, [], .of rfl rfl rfl rfl rfl ⟨⟨_, rfl, AVLe.tup1 (AVLe.d z30_le rfl) rfl⟩, rfl, trivial⟩ trivial⟩
 ·have d4 : (!decide (e = 0)) = true := by rw [dF he]; rfl
  rw [hpl, if_pos he]
  have hnn := parse_num _ _ _ _ _ _ _ (Nat.le_refl _) hpe
  refine sR ?_;refine rC ?_;refine nQ ?_;refine wF ?_;refine wc_exit ?_;refine seq_x ?_;refine loop_x ?_;refine blk_x ?_;refine seq_n ?_;refine sR ?_;refine rC ?_
  refine rQ (call_r hpp rfl rfl (arg_e arg_nil) (.inl rfl) (fun _ => rfl)) ?_;iterate 7 refine rC ?_
  refine nQ ?_;refine sR ?_;iterate 2 refine rC ?_
  refine nS ?_;refine wT ?_;refine sR ?_;refine rQ iS ?_;refine rC ?_;refine rQ iD ?_;refine rC ?_;refine rW ?_;iterate 2 refine rC ?_
  refine nS ?_;refine wc_ret ?_;refine seq_r ?_
  exact ⟨trivial, _, rfl, [], .of rfl rfl rfl rfl rfl ⟨⟨_, rfl, AVLe.tup1 (AVLe.d z30_le rfl) rfl⟩, rfl, trivial⟩ trivial⟩
def parseX (t : List UInt8) : SScr × Nat × Int := if 1048576 < t.length then (zScr, 0, 3) else parseS t
theorem sparse_is (t : List UInt8) : FnIs Tryz.prog 15 [.d (strD t)] [] (parSA (parseX t).1 (parseX t).2.1 (parseX t).2.2) [] := by
 by_cases h : 1048576 < t.length
 ·rw [show parseX t = (zScr, 0, 3) from if_pos h]
  exact sparse_long t h
 rw [show parseX t = parseS t from if_neg h]
 by_cases hl : t.getLast? = some 10
 ·rw [parseS, if_pos hl]
  exact sparse_main t (by omega) hl
 ·rw [parseS, if_neg hl]
  exact sparse_nosuf t (by omega) hl
end Go.Proofs.YthiijfbcfoifnaaGreatDoor
namespace Go.Proofs.YthiijfbcfoifnaaGreatDoor
open Go.Eng Go.Plain
def encV : Bool × POp → D
 | (true, o) => .cons (u8s o.kind) (.cons (i6 o.index) (.cons (.sc nil_) .nil))
 | (false, o) => encPOp o
def VOk (x : Bool × POp) : Prop := x.1 = true → x.2.data = []
theorem dle_arr {α β : Type} {s : Nat} {enc : α → D} {enc' : β → D} {g : α → β} {xs : List α} {ys : List β} (hy : ys = xs.map g) (h : ∀ x ∈ xs, DLe (enc x) (enc' (g x))) : DLe (.arr s enc xs) (.arr s enc' ys) := by
 subst hy
 rintro w X cs (⟨rfl, rfl⟩ | ⟨a, c, rfl, h1, h2, f, hf⟩)
 ·exact .inl ⟨rfl, rfl⟩
 ·refine .inr ⟨a, c, by rw [List.length_map], by rw [List.length_map]; exact h1, h2, f, fun i hi => ?_⟩
  rw [List.length_map] at hi
  obtain ⟨g1, g2, g3⟩ := hf i hi
  refine ⟨?_, g2, g3⟩
  rw [List.getElem_map]
  exact h _ (List.getElem_mem _) _ _ _ g1
abbrev encPV (l : List (Bool × POp)) : D := .arr 3 encV l
end Go.Proofs.YthiijfbcfoifnaaGreatDoor
namespace Go.Eng
open Go.RowKit
section
variable {P : Program} {T : Tab} {env : Env} {h : Upds} {n : Nat}
end
end Go.Eng
namespace Go.Proofs.YthiijfbcfoifnaaGreatDoor
open Go.Eng Go.Plain
set_option maxHeartbeats 4000000
set_option maxRecDepth 20000
attribute [local irreducible] WC RegS RegD SeqQ BlkQ ScoQ RegK CutK Sat SatN FnIs LoopQ StepIs OpIs
theorem hexD_cut {d : Nat} (h : d < 16) : (hexD.drop d).take (d + 1 - d) = [hexC d] := by
 have : ∀ d, d < 16 → (hexD.drop d).take (d + 1 - d) = [hexC d] := by decide
 exact this d h
theorem rhex34_is (l : List UInt8) (hL : l.length ≤ 1000000000) : FnIs Tryz.prog 28 [.d (encB l)] [] (.d (strD (hexP l))) [] := by
 have hbl : (byI l).length = l.length := byI_len l
 refine fnIs_of tab_ok Tryz.func28 rfl rfl rfl ?_
 by_cases hn : l = []
 ·have hd : decide (((byI l).length : Int) = 0) = true := by rw [hn]; rfl
  rw [show hexP l = [45] from if_pos hn]
  refine sR ?_;refine rC ?_;refine nQ ?_;refine sR ?_;refine rC ?_;refine rQ iE ?_;refine rC ?_;refine nS ?_;refine wT ?_;refine sR ?_;refine rC ?_;refine nS ?_;refine wc_ret ?_
  refine seq_r ?_
  exact ⟨trivial, [], lf⟩
 have hpos : 0 < l.length := List.length_pos_iff.2 hn
 have hd : decide (((byI l).length : Int) = 0) = false := dF (by omega)
 refine sR ?_;refine rC ?_;refine nQ ?_;refine sR ?_;refine rC ?_;refine rQ iE ?_;refine rC ?_;refine nS ?_;refine wF ?_;refine kS ?_;refine sR ?_;refine rC ?_;refine nQ ?_
 refine sR ?_;refine rC ?_;refine nS ?_;refine wc_block ?_
 refine wc_inv (fun i : Nat => ⟨[(4, .int .i64 i), (3, .d (strD ((l.take i).flatMap hexB))), (0, .d (encB l))], [], 72, Tryz.f28.ntmps, 64⟩) (fun i => i ≤ l.length) (fun i => l.length - i) 0 [] (Nat.zero_le _)
  (.of rfl rfl rfl rfl rfl ⟨⟨_, rfl, .refl _⟩, rfl, ⟨_, rfl, .refl _⟩, rfl, ⟨_, rfl, .refl _⟩, rfl, trivial⟩ trivial) ?_
 intro i hi
 refine wc_of ?_
 by_cases hlt : i < l.length
 ·have d1 : decide ((i : Int) < ((byI l).length : Int)) = true := dT (by omega)
  obtain ⟨b, hb⟩ : ∃ b, l[i]? = some b := ⟨_, List.getElem?_eq_getElem hlt⟩
  have hb' : (byI l)[((i : Int)).toNat]? = some (b.toNat : Int) := by rw [Int.toNat_natCast]; exact byI_get hb
  have hb8 : b.toNat < 256 := b.toNat_lt
  have hw16 : IntKind.u8.wrap ((b.toNat / 16 : Nat) : Int) = ((b.toNat / 16 : Nat) : Int) := wrap_u8n (by omega)
  have hw1 : IntKind.u8.wrap (((b.toNat / 16 : Nat) : Int) + 1) = ((b.toNat / 16 + 1 : Nat) : Int) := wrap_u8n (a := b.toNat / 16 + 1) (by omega)
  have hw2 : IntKind.u8.wrap (((b.toNat % 16 : Nat) : Int) + 1) = ((b.toNat % 16 + 1 : Nat) : Int) := wrap_u8n (a := b.toNat % 16 + 1) (by omega)
  have hle1 : b.toNat / 16 + 1 ≤ hexD.length := by show _ ≤ 16; omega
  have hle2 : b.toNat % 16 + 1 ≤ hexD.length := by show _ ≤ 16; omega
  have hcut1 := hexD_cut (d := b.toNat / 16) (by omega)
  have hcut2 := hexD_cut (d := b.toNat % 16) (by omega)
  have hpl : ((l.take i).flatMap hexB).length = 2 * i := by rw [hexB_len, List.length_take, Nat.min_eq_left hi]
  have hlen1 : ((l.take i).flatMap hexB).length + [hexC (b.toNat / 16)].length ≤ 9223372036854775807 := by rw [hpl]; simp; omega
  have hlen2 : ((l.take i).flatMap hexB ++ [hexC (b.toNat / 16)]).length + [hexC (b.toNat % 16)].length ≤ 9223372036854775807 := by rw [List.length_append, hpl]; simp; omega
  have hgo := hex_take hb
  refine qR ?_;iterate 2 refine rC ?_
  refine rQ iE ?_;refine rC ?_;refine nS ?_;refine wT ?_;refine kS ?_;refine wc_seq ?_;refine wc_block ?_;refine wc_seq ?_;refine wc_draw (by kernel_rfl) ?_;refine dC [0] [] ?_
  refine dC [4] [] ?_;refine dQ [16, 17] [] iA ?_;refine dQ [18] [] iL ?_;refine dQ [19] [] (quo_nat (a := b.toNat) (b := 16) tab_ok rfl rfl rfl (by decide) hw16) ?_
  refine dC [0] [] ?_;refine dC [4] [] ?_;refine dQ [21, 22] [] iA ?_;refine dQ [23] [] iL ?_;refine dQ [24] [] (rem_nat (a := b.toNat) (b := 16) tab_ok rfl rfl rfl (by decide)) ?_
  refine dC [20] [] ?_;refine dC [25] [] ?_;refine dreg_end (by kernel_rfl) ?_;refine seq_n ?_;refine wc_draw (by kernel_rfl) ?_;refine dC [3] [] ?_;iterate 2 refine dC [5] [] ?_
  refine dQ [28] [] (add_int (m := ((b.toNat / 16 + 1 : Nat) : Int)) tab_ok rfl rfl hw1) ?_;refine dQ [27, 29] [] (str_mid (l := hexD) (lo := b.toNat / 16) (hi := b.toNat / 16 + 1) tab_ok rfl rfl rfl rfl hle1 (by omega) hcut1) ?_
  refine dQ [26, 30] [] (add_str (a := (l.take i).flatMap hexB) (b := [hexC (b.toNat / 16)]) rfl rfl hlen1 rfl) ?_;iterate 2 refine dC [6] [] ?_
  refine dQ [33] [] (add_int (m := ((b.toNat % 16 + 1 : Nat) : Int)) tab_ok rfl rfl hw2) ?_;refine dQ [32, 34] [] (str_mid (l := hexD) (lo := b.toNat % 16) (hi := b.toNat % 16 + 1) tab_ok rfl rfl rfl rfl hle2 (by omega) hcut2) ?_
  refine dQ [31, 35] [] (add_str (a := (l.take i).flatMap hexB ++ [hexC (b.toNat / 16)]) (b := [hexC (b.toNat % 16)]) rfl rfl hlen2 rfl) ?_;refine dC [36] [] ?_;refine dreg_end (by kernel_rfl) ?_
  refine blk_n ?_;refine seq_n ?_;refine wc_region ?_;refine rC ?_;refine rQ iD ?_;refine rC ?_;refine reg_nil ?_
  exact loop_n (i + 1) [] hlt (by omega) (.of rfl rfl rfl rfl rfl ⟨⟨_, rfl, .refl _⟩, rfl, ⟨_, rfl, AVLe.of_eq (by rw [hgo]; rfl)⟩, rfl, ⟨_, rfl, .refl _⟩, rfl, trivial⟩ trivial)
 ·have he : i = l.length := by omega
  subst he
  have d1 : decide ((l.length : Int) < ((byI l).length : Int)) = false := dF (by omega)
  rw [List.take_length, show hexP l = l.flatMap hexB from if_neg hn]
  refine qR ?_;iterate 2 refine rC ?_
  refine rQ iE ?_;refine rC ?_;refine nS ?_;refine wF ?_;refine wc_exit ?_;refine seq_x ?_;refine loop_x ?_;refine blk_x ?_;refine seq_n ?_;refine sR ?_;iterate 2 refine rC ?_
  refine nS ?_;refine wc_ret ?_
  exact ⟨trivial, [], lf⟩
def cA (p : SAct → Bool) (l : List SAct) : Nat := l.countP p
theorem cA_go {p : SAct → Bool} {l : List SAct} {i : Nat} {a : SAct} (h : l[i]? = some a) : cA p (l.take (i + 1)) = cA p (l.take i) + if p a = true then 1 else 0 := by
 rw [List.take_add_one, h, Option.toList_some, cA, cA, List.countP_append, List.countP_cons, List.countP_nil, Nat.zero_add]
theorem cA_le (p : SAct → Bool) (l : List SAct) : cA p l ≤ l.length := List.countP_le_length
def isP (a : SAct) : Bool := decide (a.kind = 1)
def isE (a : SAct) : Bool := decide (a.kind = 2) || decide (a.kind = 3) || decide (a.kind = 4)
def isF (a : SAct) : Bool := decide (a.kind = 5)
theorem countA_is (c : SCfg) (l : List (List POp)) (bs : List SAct) (hL : bs.length ≤ 1000000000) : FnIs Tryz.prog 20 [.d (encScr c l bs)] [] (.tup (.acons (.int .i64 (cA isP bs)) (.acons (.int .i64 (cA isE bs)) (.acons (.int .i64 (cA isF bs)) .anil)))) [] := by
 refine fnIs_of tab_ok Tryz.func20 rfl rfl rfl ?_;refine sR ?_;refine rN ?_;iterate 3 refine rC ?_
 refine nQ ?_;refine sR ?_;refine rC ?_;refine rQ iB ?_;refine rQ iE ?_;refine rC ?_;refine nS ?_;refine wc_block ?_
 refine wc_inv (fun i : Nat => ⟨[(10, .int .i64 i), (9, .int .i64 bs.length), (8, .d (encAs bs)), (2, .int .i64 (cA isP (bs.take i))), (3, .int .i64 (cA isE (bs.take i))), (4, .int .i64 (cA isF (bs.take i)))], [], 72, Tryz.f20.ntmps, 64⟩) (fun i => i ≤ bs.length) (fun i => bs.length - i) 0 [] (Nat.zero_le _)
  (.of rfl rfl rfl rfl rfl ⟨⟨_, rfl, .refl _⟩, rfl, ⟨_, rfl, .refl _⟩, rfl, ⟨_, rfl, .refl _⟩, rfl, ⟨_, rfl, .refl _⟩, rfl, ⟨_, rfl, .refl _⟩, rfl, ⟨_, rfl, .refl _⟩, rfl, trivial⟩ trivial) ?_
 intro i hi
 refine wc_of ?_
 by_cases hlt : i < bs.length
 ·have d0 : decide ((i : Int) < (bs.length : Int)) = true := dT (by omega)
  obtain ⟨a, ha⟩ : ∃ a, bs[i]? = some a := ⟨_, List.getElem?_eq_getElem hlt⟩
  have ha2 : bs[((i : Int)).toNat]? = some a := by rw [Int.toNat_natCast]; exact ha
  have g1 := cA_go (p := isP) ha
  have g2 := cA_go (p := isE) ha
  have g3 := cA_go (p := isF) ha
  have b1 := cA_le isP (bs.take i)
  have b2 := cA_le isE (bs.take i)
  have b3 := cA_le isF (bs.take i)
  rw [List.length_take] at b1 b2 b3
  refine sR ?_;refine rC ?_;refine nQ ?_;refine wT ?_;refine kS ?_;refine wc_seq ?_;refine wc_block ?_;refine sR ?_;refine rQ (index_arr tab_ok rfl rfl rfl rfl rfl (by omega) ha2) ?_
  refine rQ iL ?_;refine rN ?_;refine rW ?_;refine nR ?_;refine rC ?_;refine rQ iB ?_;refine nS ?_;refine wc_block ?_;refine sR ?_;iterate 2 refine rC ?_
  refine nS ?_
  by_cases k1 : a.kind = 1
  ·skip
   have d1 : decide (a.kind = 1) = true := dT (by omega)
   rw [if_pos (by simp [isP]; omega)] at g1
   rw [if_neg (by simp [isE]; omega)] at g2
   rw [if_neg (by simp [isF]; omega)] at g3
   refine wT ?_;refine wc_region ?_;refine rC ?_;refine rQ iD ?_;refine rC ?_;refine reg_nil ?_;iterate 2 refine blk_n ?_
   refine seq_n ?_;refine wc_region ?_;refine rQ iD ?_;refine rC ?_;refine reg_nil ?_
   exact loop_n (i + 1) [] hlt (by omega) (.of rfl rfl rfl rfl rfl ⟨⟨_, rfl, .refl _⟩, rfl, ⟨_, rfl, .refl _⟩, rfl, ⟨_, rfl, .refl _⟩, rfl, ⟨_, rfl, AVLe.of_eq (by rw [g1]; rfl)⟩, rfl, ⟨_, rfl, AVLe.of_eq (by rw [g2]; rfl)⟩, rfl, ⟨_, rfl, AVLe.of_eq (by rw [g3]; rfl)⟩, rfl, trivial⟩ trivial)
  by_cases k2 : a.kind = 2
  ·skip
   have d1 : decide (a.kind = 1) = false := dF (by omega)
   have d2 : decide (a.kind = 2) = true := dT (by omega)
   rw [if_neg (by simp [isP]; omega)] at g1
   rw [if_pos (by simp [isE]; omega)] at g2
   rw [if_neg (by simp [isF]; omega)] at g3
   refine wF ?_;refine qR ?_;iterate 2 refine rC ?_
   refine nS ?_;refine wT ?_;refine kS ?_;refine wT ?_;refine wc_region ?_;refine rC ?_;refine rQ iD ?_;refine rC ?_;refine reg_nil ?_;iterate 2 refine blk_n ?_
   refine seq_n ?_;refine wc_region ?_;refine rQ iD ?_;refine rC ?_;refine reg_nil ?_
   exact loop_n (i + 1) [] hlt (by omega) (.of rfl rfl rfl rfl rfl ⟨⟨_, rfl, .refl _⟩, rfl, ⟨_, rfl, .refl _⟩, rfl, ⟨_, rfl, .refl _⟩, rfl, ⟨_, rfl, AVLe.of_eq (by rw [g1]; rfl)⟩, rfl, ⟨_, rfl, AVLe.of_eq (by rw [g2]; rfl)⟩, rfl, ⟨_, rfl, AVLe.of_eq (by rw [g3]; rfl)⟩, rfl, trivial⟩ trivial)
  by_cases k3 : a.kind = 3
  ·skip
   have d1 : decide (a.kind = 1) = false := dF (by omega)
   have d2 : decide (a.kind = 2) = false := dF (by omega)
   have d3 : decide (a.kind = 3) = true := dT (by omega)
   rw [if_neg (by simp [isP]; omega)] at g1
   rw [if_pos (by simp [isE]; omega)] at g2
   rw [if_neg (by simp [isF]; omega)] at g3
   refine wF ?_;refine qR ?_;iterate 2 refine rC ?_
   refine nS ?_;refine wF ?_;refine sR ?_;iterate 2 refine rC ?_
   refine nS ?_;refine wT ?_;refine kS ?_;refine wT ?_;refine wc_region ?_;refine rC ?_;refine rQ iD ?_;refine rC ?_;refine reg_nil ?_;iterate 2 refine blk_n ?_
   refine seq_n ?_;refine wc_region ?_;refine rQ iD ?_;refine rC ?_;refine reg_nil ?_
   exact loop_n (i + 1) [] hlt (by omega) (.of rfl rfl rfl rfl rfl ⟨⟨_, rfl, .refl _⟩, rfl, ⟨_, rfl, .refl _⟩, rfl, ⟨_, rfl, .refl _⟩, rfl, ⟨_, rfl, AVLe.of_eq (by rw [g1]; rfl)⟩, rfl, ⟨_, rfl, AVLe.of_eq (by rw [g2]; rfl)⟩, rfl, ⟨_, rfl, AVLe.of_eq (by rw [g3]; rfl)⟩, rfl, trivial⟩ trivial)
  by_cases k4 : a.kind = 4
  ·skip
   have d1 : decide (a.kind = 1) = false := dF (by omega)
   have d2 : decide (a.kind = 2) = false := dF (by omega)
   have d3 : decide (a.kind = 3) = false := dF (by omega)
   have d4 : decide (a.kind = 4) = true := dT (by omega)
   rw [if_neg (by simp [isP]; omega)] at g1
   rw [if_pos (by simp [isE]; omega)] at g2
   rw [if_neg (by simp [isF]; omega)] at g3
   refine wF ?_;refine qR ?_;iterate 2 refine rC ?_
   refine nS ?_;refine wF ?_;refine sR ?_;iterate 2 refine rC ?_
   refine nS ?_;refine wF ?_;refine wc_region ?_;iterate 2 refine rC ?_
   refine nS ?_;refine wT ?_;refine wc_region ?_;refine rC ?_;refine rQ iD ?_;refine rC ?_;refine reg_nil ?_;iterate 2 refine blk_n ?_
   refine seq_n ?_;refine wc_region ?_;refine rQ iD ?_;refine rC ?_;refine reg_nil ?_
   exact loop_n (i + 1) [] hlt (by omega) (.of rfl rfl rfl rfl rfl ⟨⟨_, rfl, .refl _⟩, rfl, ⟨_, rfl, .refl _⟩, rfl, ⟨_, rfl, .refl _⟩, rfl, ⟨_, rfl, AVLe.of_eq (by rw [g1]; rfl)⟩, rfl, ⟨_, rfl, AVLe.of_eq (by rw [g2]; rfl)⟩, rfl, ⟨_, rfl, AVLe.of_eq (by rw [g3]; rfl)⟩, rfl, trivial⟩ trivial)
  by_cases k5 : a.kind = 5
  ·skip
   have d1 : decide (a.kind = 1) = false := dF (by omega)
   have d2 : decide (a.kind = 2) = false := dF (by omega)
   have d3 : decide (a.kind = 3) = false := dF (by omega)
   have d4 : decide (a.kind = 4) = false := dF (by omega)
   have d5 : decide (a.kind = 5) = true := dT (by omega)
   rw [if_neg (by simp [isP]; omega)] at g1
   rw [if_neg (by simp [isE]; omega)] at g2
   rw [if_pos (by simp [isF]; omega)] at g3
   refine wF ?_;refine qR ?_;iterate 2 refine rC ?_
   refine nS ?_;refine wF ?_;refine sR ?_;iterate 2 refine rC ?_
   refine nS ?_;refine wF ?_;refine wc_region ?_;iterate 2 refine rC ?_
   refine nS ?_;refine wF ?_;refine sR ?_;iterate 2 refine rC ?_
   refine nS ?_;refine wT ?_;refine wc_region ?_;refine rC ?_;refine rQ iD ?_;refine rC ?_;refine reg_nil ?_;iterate 2 refine blk_n ?_
   refine seq_n ?_;refine wc_region ?_;refine rQ iD ?_;refine rC ?_;refine reg_nil ?_
   exact loop_n (i + 1) [] hlt (by omega) (.of rfl rfl rfl rfl rfl ⟨⟨_, rfl, .refl _⟩, rfl, ⟨_, rfl, .refl _⟩, rfl, ⟨_, rfl, .refl _⟩, rfl, ⟨_, rfl, AVLe.of_eq (by rw [g1]; rfl)⟩, rfl, ⟨_, rfl, AVLe.of_eq (by rw [g2]; rfl)⟩, rfl, ⟨_, rfl, AVLe.of_eq (by rw [g3]; rfl)⟩, rfl, trivial⟩ trivial)
  ·skip
   have d1 : decide (a.kind = 1) = false := dF (by omega)
   have d2 : decide (a.kind = 2) = false := dF (by omega)
   have d3 : decide (a.kind = 3) = false := dF (by omega)
   have d4 : decide (a.kind = 4) = false := dF (by omega)
   have d5 : decide (a.kind = 5) = false := dF (by omega)
   rw [if_neg (by simp [isP]; omega)] at g1
   rw [if_neg (by simp [isE]; omega)] at g2
   rw [if_neg (by simp [isF]; omega)] at g3
   refine wF ?_;refine qR ?_;iterate 2 refine rC ?_
   refine nS ?_;refine wF ?_;refine sR ?_;iterate 2 refine rC ?_
   refine nS ?_;refine wF ?_;refine wc_region ?_;iterate 2 refine rC ?_
   refine nS ?_;refine wF ?_;refine sR ?_;iterate 2 refine rC ?_
   refine nS ?_;refine wF ?_;refine wc_skip ?_;iterate 2 refine blk_n ?_
   refine seq_n ?_;refine wc_region ?_;refine rQ iD ?_;refine rC ?_;refine reg_nil ?_
   exact loop_n (i + 1) [] hlt (by omega) (.of rfl rfl rfl rfl rfl ⟨⟨_, rfl, .refl _⟩, rfl, ⟨_, rfl, .refl _⟩, rfl, ⟨_, rfl, .refl _⟩, rfl, ⟨_, rfl, AVLe.of_eq (by rw [g1]; rfl)⟩, rfl, ⟨_, rfl, AVLe.of_eq (by rw [g2]; rfl)⟩, rfl, ⟨_, rfl, AVLe.of_eq (by rw [g3]; rfl)⟩, rfl, trivial⟩ trivial)
 ·have he : i = bs.length := by omega
  subst he
  have d0 : decide ((bs.length : Int) < (bs.length : Int)) = false := dF (by omega)
  rw [List.take_length]
  refine sR ?_;refine rC ?_;refine nQ ?_;refine wF ?_;refine wc_exit ?_;refine seq_x ?_;refine loop_x ?_;refine blk_x ?_;refine seq_n ?_;refine sR ?_;iterate 6 refine rC ?_
  refine nS ?_;refine wc_ret ?_
  exact ⟨trivial, [], lf⟩
def encAN : Option SAct → D
 | none => .cons (u8s 0) (.cons (i6 0) (.cons (i6 0) (.cons (.sc (.slice none 0 0)) (.cons (i6 0) .nil))))
 | some a => encAct a
def pickA (n : Int) : SAct := ⟨1, n, 0, [], 0⟩
def encAV : Bool × SAct → D
 | (true, a) => .cons (u8s a.kind) (.cons (i6 a.thread) (.cons (i6 a.sector) (.cons (.sc nil_) (.cons (i6 a.back) .nil))))
 | (false, a) => encAct a
def AVOk (x : Bool × SAct) : Prop := x.1 = true → x.2.bytes = []
theorem encAV_le {x : Bool × SAct} (h : AVOk x) : DLe (encAV x) (encAct x.2) := by
 obtain ⟨b, ⟨k, t, s, y, r⟩⟩ := x
 cases b with
 | false => exact fun _ _ _ h => h
 | true =>
  have : y = [] := h rfl
  subst this
  exact act_dle k t s r
theorem encAVs_le {l : List (Bool × SAct)} {bs : List SAct} (hb : bs = l.map (·.2)) (h : ∀ x ∈ l, AVOk x) : DLe (.arr 5 encAV l) (encAs bs) := dle_arr hb fun x hx => encAV_le (h x hx)
theorem encAV_size (x : Bool × SAct) : (encAV x).size = 5 := by obtain ⟨b, a⟩ := x; cases b <;> rfl
def exC : SCfg := ⟨1, 1, 3, 1, 8, 8, List.replicate 32 0, 0⟩
abbrev exV : List (Bool × SAct) := [(true, ⟨1, 0, 0, [], 0⟩), (false, ⟨2, 0, 2, [10, 255], 0⟩), (true, ⟨3, 0, 1, [], 0⟩), (true, ⟨4, 0, 0, [], 1⟩), (true, ⟨5, 0, 0, [], 0⟩)]
def encNL : Unit → D := fun _ => .sc nil_
theorem ex_is : FnIs Tryz.prog 17 [] [] (.acons (.d (encCfg exC)) (.acons (.d (.arr 1 encNL [()])) (.acons (.own 64 0 5 5 none) (.d .nil)))) [(64, .ds 39 5 true encAV exV)] := by
 refine fnIs_of tab_ok Tryz.func17 rfl rfl rfl ?_;refine sR ?_;refine rN ?_;refine nR ?_;refine rQ iS ?_;refine rQ (StepIs.frozen (build_slice (s := 1) tab_ok rfl rfl rfl rfl rfl rfl rfl rfl) (Frz.lits1 (enc := encNL) () rfl rfl)) ?_
 refine rQ iS ?_;refine rQ (StepIs.frozen (build_slice (s := 1) tab_ok rfl rfl rfl rfl rfl rfl rfl rfl) (Frz.lits2 (enc := encU8) (10 : Int) (255 : Int) rfl rfl rfl rfl)) ?_
 iterate 4 refine rQ iS ?_
 refine reg_new (build_list (s := 5) (enc := encAV) (xs := exV) tab_ok rfl rfl rfl rfl rfl rfl rfl rfl rfl encAV_size rfl) rfl ?_;refine rQ iS ?_;refine rW ?_;refine nS ?_
 refine wc_ret ?_
 exact ⟨trivial, _, rfl, [(64, some _)], .of rfl rfl rfl rfl rfl ⟨⟨_, rfl, AVLe.of_eq rfl⟩, rfl, trivial⟩ ⟨⟨rfl, rfl, _, rfl, .refl _⟩, trivial⟩⟩
def exL (t s : Int) : List SAct := [⟨1, t, 0, [], 0⟩, ⟨2, 0, 2, [10, 255], 0⟩, ⟨3, 0, s, [], 0⟩, ⟨4, 0, 0, [], 1⟩, ⟨5, 0, 0, [], 0⟩]
theorem exL_0 : schk exC [[]] (exL 0 1) = 0 := by decide +kernel
theorem exL_2 : schk exC [[]] (exL 2 1) = 1 := by decide +kernel
theorem exL_1 : schk exC [[]] (exL 1 1) = 0 := by decide +kernel
theorem exL_4 : schk exC [[]] (exL 1 4) = 1 := by decide +kernel
def lvA : List UInt8 := [118, 111, 108, 117, 109, 101, 32, 49, 32, 49, 32, 51, 32, 49, 10, 110, 111, 110, 99, 101, 115, 32, 56, 32, 56, 10, 102, 108, 97, 119, 32, 48, 10, 109, 97, 115, 116, 101, 114, 32]
def lvB : List UInt8 := [10, 112, 114, 111, 103, 114, 97, 109, 115, 10]
def lvC : List UInt8 := [97, 99, 116, 105, 111, 110, 115, 10, 112, 105, 99, 107, 32, 48, 10, 101, 100, 105, 116, 32, 50, 32, 48, 97, 102, 102, 10, 101, 114, 97, 115, 101, 32, 49, 10, 114, 101, 112, 108, 97, 121, 32, 48, 32, 49, 10, 102, 97, 108, 108, 10]
theorem exT : textP2 exC [[]] (exL 0 1) = (lvA ++ hexP (List.replicate 32 0) ++ lvB ++ textP [[]] ++ lvC, 0) := by decide +kernel
theorem exP : chkP [[]] = 0 := by decide +kernel
def px1 : List UInt8 := [118, 111, 108, 117, 109, 101, 32, 49, 32, 49, 32, 51, 10]
def px2 : List UInt8 := [118, 111, 108, 117, 109, 101, 32, 49, 32, 49, 32, 51, 32, 49, 10, 110, 111, 110, 99, 101, 115, 32, 56, 32, 48, 56, 10]
def px3 : List UInt8 := [118, 111, 108, 117, 109, 101, 32, 49, 32, 49, 32, 51, 32, 49]
theorem px_1 : parseX px1 = (zScr, 1, 5) := by decide +kernel
theorem px_2 : parseX px2 = (zScr, 2, 5) := by decide +kernel
theorem px_3 : parseX px3 = (zScr, 0, 5) := by decide +kernel
theorem exC_ok : exC.Ok := ⟨by unfold InI exC; decide, by unfold InI exC; decide, by unfold InI exC; decide, by unfold InI exC; decide, by unfold InU exC; decide, by unfold InU exC; decide, rfl, by unfold exC; decide⟩
abbrev exW (t s : Int) : List (Bool × SAct) := [(true, ⟨1, t, 0, [], 0⟩), (false, ⟨2, 0, 2, [10, 255], 0⟩), (true, ⟨3, 0, s, [], 0⟩), (true, ⟨4, 0, 0, [], 1⟩), (true, ⟨5, 0, 0, [], 0⟩)]
theorem exW_ok (t s : Int) : ∀ x ∈ exW t s, AVOk x := by
 intro x hx
 simp only [exW, List.mem_cons, List.not_mem_nil, or_false] at hx
 rcases hx with rfl | rfl | rfl | rfl | rfl
 ·exact fun _ => rfl
 ·exact fun h => by cases h
 ·exact fun _ => rfl
 ·exact fun _ => rfl
 ·exact fun _ => rfl
theorem nl_le : DLe (.arr 1 encNL [()]) (encPL [[]]) := dle_arr (g := fun _ => []) rfl fun _ _ => DLe.nil_arr 3 encPOp
theorem arg_scr {look : Nat → Option Row} {ρ : Nat → Option Nat} {c : SCfg} {l : List (List POp)} {r n te : Nat} {ex : Bool} {cap : Option Nat} {P : D} {V : List (Bool × SAct)} {bs : List SAct} {bs9 avs : List AV} (hr : look r = some (.ds te 5 ex encAV V)) (hn : n = V.length) (hP : DLe P (encPL l)) (hb : bs = V.map (·.2)) (hV : ∀ x ∈ V, AVOk x) (h : ArgsA look ρ bs9 avs) :
  ArgsA look ρ (.acons (.d (encCfg c)) (.acons (.d P) (.acons (.own r 0 n 5 cap) (.d .nil))) :: bs9) (.d (encScr c l bs) :: avs) :=
 ⟨_, avs, rfl, ⟨rfl, rfl⟩, ⟨rfl, _, _, rfl, DLe.refl _, _, _, rfl, hP, _, _, rfl, by subst hn; simp only [ArgD, hr]; exact ⟨trivial, by simp, V, by simp, encAVs_le hb hV⟩, DLe.refl _⟩, h⟩
theorem exL_len (t s : Int) : (exL t s).length ≤ 1000000000 := by show 5 ≤ _; decide
theorem exL_W (t s : Int) : exL t s = (exW t s).map (·.2) := rfl
theorem nb : Bd [[]] := ⟨by decide, fun p hp => by simp only [List.mem_cons, List.not_mem_nil, or_false] at hp; subst hp; decide⟩
theorem nok : OkL [[]] := fun p hp => by simp only [List.mem_cons, List.not_mem_nil, or_false] at hp; subst hp; intro o ho; cases ho
theorem exL_ok : ∀ a ∈ exL 0 1, a.Ok := by
 intro a ha
 simp only [exL, List.mem_cons, List.not_mem_nil, or_false] at ha
 rcases ha with rfl | rfl | rfl | rfl | rfl <;> exact ⟨by decide, by unfold InI; decide, by unfold InI; decide, by unfold InI; decide⟩
theorem plT (l : List UInt8) (e : Int) : PlainRes (.tup (.acons (.d (strD l)) (.acons (.d (i6 e)) .anil))) [] := PlainRes.of ⟨trivial, trivial, trivial⟩ plain_rows_nil
theorem plC : PlainRes (.tup (.acons (.int .i64 (cA isP (exL 0 1))) (.acons (.int .i64 (cA isE (exL 0 1))) (.acons (.int .i64 (cA isF (exL 0 1))) .anil)))) [] := PlainRes.of ⟨trivial, trivial, trivial, trivial⟩ plain_rows_nil
theorem lives_is : FnIs Tryz.prog 10 [] [] (.bool true) [] := by
 have hl1 : lvA.length + (hexP (List.replicate 32 0)).length ≤ 9223372036854775807 := by decide +kernel
 have hl2 : (lvA ++ hexP (List.replicate 32 0)).length + lvB.length ≤ 9223372036854775807 := by decide +kernel
 have hl3 : (lvA ++ hexP (List.replicate 32 0) ++ lvB).length + (textP [[]]).length ≤ 9223372036854775807 := by decide +kernel
 have hl4 : (lvA ++ hexP (List.replicate 32 0) ++ lvB ++ textP [[]]).length + lvC.length ≤ 9223372036854775807 := by decide +kernel
 have hne : (!decide (mkS (lvA ++ hexP (List.replicate 32 0) ++ lvB ++ textP [[]] ++ lvC) = mkS (lvA ++ hexP (List.replicate 32 0) ++ lvB ++ textP [[]] ++ lvC))) = false := by simp
 have hHex := rhex34_is (List.replicate 32 0) (by decide)
 have hText := stext_is exC [[]] (exL 0 1) exC_ok nb nok (exL_len _ _) exL_ok
 have hProg := text_is [[]] nb nok
 have hC0 := scheck_is exC [[]] (exL 0 1) exC_ok nb (exL_len _ _)
 have hC2 := scheck_is exC [[]] (exL 2 1) exC_ok nb (exL_len _ _)
 have hC1 := scheck_is exC [[]] (exL 1 1) exC_ok nb (exL_len _ _)
 have hC4 := scheck_is exC [[]] (exL 1 4) exC_ok nb (exL_len _ _)
 have hCnt := countA_is exC [[]] (exL 0 1) (exL_len _ _)
 have hP1 := sparse_is px1
 have hP2 := sparse_is px2
 have hP3 := sparse_is px3
 rw [exT] at hText
 rw [exP, if_pos rfl] at hProg
 rw [exL_0] at hC0
 rw [exL_2] at hC2
 rw [exL_1] at hC1
 rw [exL_4] at hC4
 rw [px_1] at hP1
 rw [px_2] at hP2
 rw [px_3] at hP3
 refine fnIs_of tab_ok Tryz.func10 rfl rfl rfl ?_;refine sR ?_;refine rC ?_;refine nR ?_;refine reg_new (call_new ex_is rfl rfl arg_nil (.inl rfl) rfl rfl) rfl ?_
 refine rN ?_;refine rW ?_;refine nR ?_;refine rQ iM ?_;refine rQ (call_r hText rfl rfl (arg_scr rfl rfl nl_le (exL_W 0 1) (exW_ok 0 1) arg_nil) (.inr (plT _ _)) (fun _ => rfl)) ?_
 iterate 5 refine rC ?_
 refine nR ?_;refine rC ?_;refine rQ iM ?_;refine rQ (call_r hProg rfl rfl (arg_d rfl trivial nl_le arg_nil) (.inl rfl) (fun _ => rfl)) ?_;iterate 5 refine rC ?_
 refine nR ?_;refine reg_new (make_full (enc := encU8) (s := 1) (N := 32) tab_ok 0 rfl rfl rfl rfl rfl rfl rfl (by decide) rfl) rfl ?_;refine rQ (call_r hHex rfl rfl (arg_ownL (xs := byI (List.replicate 32 0)) (enc := encU8) (s := 1) rfl rfl arg_nil) (.inr (PlainRes.sc _)) (fun _ => rfl)) ?_
 refine rQ (add_str (a := lvA) (b := hexP (List.replicate 32 0)) rfl rfl hl1 rfl) ?_;refine rQ (add_str (a := lvA ++ hexP (List.replicate 32 0)) (b := lvB) rfl rfl hl2 rfl) ?_
 refine rC ?_;refine nQ ?_;refine sR ?_;iterate 3 refine rC ?_
 refine rP ?_;refine rC ?_;refine rP ?_;refine rC ?_;refine rQ iG ?_;refine rC ?_;refine rP ?_;refine rQ iM ?_;refine rP ?_;refine rQ (call_r hC0 rfl rfl (arg_scr rfl rfl nl_le (exL_W 0 1) (exW_ok 0 1) arg_nil) (.inr (PlainRes.sc _)) (fun _ => rfl)) ?_
 refine rP ?_;refine rC ?_;refine rQ iG ?_;refine rC ?_;refine rP ?_;refine rC ?_;refine rP ?_;refine rC ?_;refine rP ?_;refine rC ?_;refine rP ?_;refine rQ (add_str (a := lvA ++ hexP (List.replicate 32 0) ++ lvB) (b := textP [[]]) rfl rfl hl3 rfl) ?_
 refine rP ?_;refine rQ (add_str (a := lvA ++ hexP (List.replicate 32 0) ++ lvB ++ textP [[]]) (b := lvC) rfl rfl hl4 rfl) ?_;refine rP ?_;refine rQ (neq_str tab_ok rfl rfl rfl) ?_
 refine rQ iG ?_;refine nS ?_;refine wG ?_;refine kS ?_;refine sR ?_;refine rQ iM ?_;refine rQ (call_r hCnt rfl rfl (arg_scr rfl rfl nl_le (exL_W 0 1) (exW_ok 0 1) arg_nil) (.inr plC) (fun _ => rfl)) ?_
 iterate 7 refine rC ?_
 refine nR ?_;refine rC ?_;refine rQ iM ?_;refine rQ (index_own tab_ok rfl rfl rfl rfl rfl (by omega) (by omega)) ?_;refine rC ?_;refine reg_store (store_row tab_ok rfl rfl rfl ⟨rfl, (true, ⟨1, 0, 0, [], 0⟩), (true, ⟨1, 2, 0, [], 0⟩), rfl, ⟨_, ⟨rfl, rfl, rfl⟩, rfl⟩, rfl⟩ rfl) ?_
 refine nR ?_;refine rQ iM ?_;refine rQ (call_r hC2 rfl rfl (arg_scr rfl rfl nl_le (exL_W 2 1) (exW_ok 2 1) arg_nil) (.inr (PlainRes.sc _)) (fun _ => rfl)) ?_;refine rC ?_
 refine nR ?_;refine rC ?_;refine rQ iM ?_;refine rQ (index_own tab_ok rfl rfl rfl rfl rfl (by omega) (by omega)) ?_;refine rC ?_;refine reg_store (store_row tab_ok rfl rfl rfl ⟨rfl, (true, ⟨1, 2, 0, [], 0⟩), (true, ⟨1, 1, 0, [], 0⟩), rfl, ⟨_, ⟨rfl, rfl, rfl⟩, rfl⟩, rfl⟩ rfl) ?_
 refine nR ?_;refine rQ iM ?_;refine rQ (call_r hC1 rfl rfl (arg_scr rfl rfl nl_le (exL_W 1 1) (exW_ok 1 1) arg_nil) (.inr (PlainRes.sc _)) (fun _ => rfl)) ?_;refine rC ?_
 refine nR ?_;refine rC ?_;refine rQ iM ?_;refine rQ (index_own tab_ok rfl rfl rfl rfl rfl (by omega) (by omega)) ?_;refine rC ?_;refine reg_store (store_row tab_ok rfl rfl rfl ⟨rfl, (true, ⟨3, 0, 1, [], 0⟩), (true, ⟨3, 0, 4, [], 0⟩), rfl, ⟨_, ⟨rfl, rfl, rfl⟩, rfl⟩, rfl⟩ rfl) ?_
 refine nQ ?_;refine sR ?_;refine rQ (StepIs.frozen (build_slice (s := 1) tab_ok rfl rfl rfl rfl rfl rfl rfl rfl) (Frz.litsN (enc := strD) [px1, px2, px3] rfl (fun _ _ => rfl))) ?_
 refine rQ iE ?_;refine rC ?_;refine nS ?_;refine wc_block ?_
 refine wc_inv (fun i : Nat => ⟨[(76, .int .i64 i), (75, .int .i64 3), (74, .d (.arr 1 strD [px1, px2, px3])), (1, .ptr 64 []), (7, .int .i64 1), (8, .int .i64 3), (9, .int .i64 1), (10, .int .i64 1), (11, .int .i64 0)], [(64, some (.box 30 (.acons (.d (encCfg exC)) (.acons (.d (.arr 1 encNL [()])) (.acons (.own 65 0 5 5 none) (.d .nil)))))), (65, some (.ds 39 5 true encAV (exW 1 4)))], 72, Tryz.f10.ntmps, 64⟩) (fun i => i ≤ 3) (fun i => 3 - i) 0 [(64, some _), (65, some _)] (Nat.zero_le _)
  (.of rfl rfl rfl rfl rfl ⟨⟨_, rfl, .refl _⟩, rfl, ⟨_, rfl, .refl _⟩, rfl, ⟨_, rfl, .refl _⟩, rfl, ⟨_, rfl, .refl _⟩, rfl, ⟨_, rfl, .refl _⟩, rfl, ⟨_, rfl, .refl _⟩, rfl, ⟨_, rfl, .refl _⟩, rfl, ⟨_, rfl, .refl _⟩, rfl, ⟨_, rfl, .refl _⟩, rfl, trivial⟩ ⟨⟨rfl, rfl, _, rfl, .refl _⟩, ⟨rfl, rfl, _, rfl, .refl _⟩, trivial⟩) ?_
 intro i hi
 refine wc_of ?_
 by_cases hlt : i < 3
 ·have d0 : decide ((i : Int) < 3) = true := dT (by omega)
  obtain ⟨t, n, ht, hn, hP⟩ : ∃ (t : List UInt8) (n : Nat), [px1, px2, px3][((i : Int)).toNat]? = some t ∧ Sub (.cons (i6 1) (.cons (i6 2) (.cons (i6 0) .nil))) [.idx ((i : Int)).toNat 1] (i6 n) ∧ FnIs Tryz.prog 15 [.d (strD t)] [] (parSA zScr n 5) [] := by
   rw [Int.toNat_natCast]
   match i, hlt with
   | 0, _ => exact ⟨px1, 1, rfl, rfl, hP1⟩
   | 1, _ => exact ⟨px2, 2, rfl, rfl, hP2⟩
   | 2, _ => exact ⟨px3, 0, rfl, rfl, hP3⟩
  have dn : (!decide ((n : Int) = (n : Int))) = false := by simp
  refine sR ?_;refine rC ?_;refine nQ ?_;refine wT ?_;refine kS ?_;refine wc_seq ?_;refine wc_block ?_;refine sR ?_;refine rC ?_;refine rQ (index_arr tab_ok rfl rfl rfl rfl rfl (by omega) ht) ?_
  refine rQ iL ?_;iterate 2 refine rC ?_
  refine nR ?_;refine rC ?_;refine rQ (call_r hP rfl rfl (arg_e arg_nil) (.inl rfl) (fun _ => rfl)) ?_;iterate 4 refine rC ?_
  refine rN ?_;refine rW ?_;iterate 2 refine rC ?_
  refine nR ?_;iterate 3 refine rC ?_
  refine rP ?_;refine rC ?_;refine rP ?_;refine rQ (build_arr_of tab_ok rfl rfl rfl rfl rfl rfl rfl) ?_;refine rP ?_;refine rC ?_;refine rP ?_;refine rQ (index_vec (k := .i64) (m := (i : Int)) (z := i6 n) tab_ok rfl rfl rfl rfl rfl (by omega) (by omega) hn rfl) ?_
  refine rP ?_;refine rC ?_;refine rQ iG ?_;refine nS ?_;refine wF ?_;refine wc_skip ?_;refine blk_n ?_;refine seq_n ?_;refine wc_region ?_;refine rQ iD ?_;refine rC ?_
  refine reg_nil ?_
  exact loop_n (i + 1) [(64, some _), (65, some _)] hlt (by omega) (.of rfl rfl rfl rfl rfl ⟨⟨_, rfl, .refl _⟩, rfl, ⟨_, rfl, .refl _⟩, rfl, ⟨_, rfl, .refl _⟩, rfl, ⟨_, rfl, .refl _⟩, rfl, ⟨_, rfl, .refl _⟩, rfl, ⟨_, rfl, .refl _⟩, rfl, ⟨_, rfl, .refl _⟩, rfl, ⟨_, rfl, .refl _⟩, rfl, ⟨_, rfl, .refl _⟩, rfl, trivial⟩ ⟨⟨rfl, rfl, _, rfl, .refl _⟩, ⟨rfl, rfl, _, rfl, .refl _⟩, trivial⟩)
 ·have he : i = 3 := by omega
  subst he
  refine sR ?_;refine rC ?_;refine nQ ?_;refine wG ?_;refine wc_exit ?_;refine seq_x ?_;refine loop_x ?_;refine blk_x ?_;refine seq_n ?_;refine sR ?_;iterate 3 refine rC ?_
  refine rP ?_;refine rC ?_;refine rP ?_;refine rC ?_;refine rQ iU ?_;refine rC ?_;refine rP ?_;refine rC ?_;refine rP ?_;refine rC ?_;refine rQ iU ?_;refine rC ?_
  refine rP ?_;refine rC ?_;refine rP ?_;refine rC ?_;refine rQ iU ?_;refine rC ?_;refine rP ?_;refine rC ?_;refine rP ?_;refine rC ?_;refine rQ iU ?_;refine rC ?_
  refine rP ?_;refine rQ iM ?_;refine rP ?_;refine rQ (call_r hC4 rfl rfl (arg_scr rfl rfl nl_le (exL_W 1 4) (exW_ok 1 4) arg_nil) (.inr (PlainRes.sc _)) (fun _ => rfl)) ?_
  refine rP ?_;refine rC ?_;refine rQ iU ?_;refine rC ?_;refine nS ?_;refine wc_ret ?_
  exact ⟨trivial, [], lf⟩
end Go.Proofs.YthiijfbcfoifnaaGreatDoor
namespace Go.Proofs.YthiijfbcfoifnaaGreatDoor
open Go.Eng Go.Plain
set_option maxHeartbeats 8000000
set_option maxRecDepth 20000
attribute [local irreducible] WC RegS RegD SeqQ BlkQ ScoQ RegK CutK Sat SatN FnIs LoopQ StepIs OpIs
theorem acts_len {bs : List SAct} (hok : ∀ a ∈ bs, a.Ok) (hb : ∀ a ∈ bs, a.bytes.length ≤ 256) : (actsT bs).length ≤ 580 * bs.length := by
 induction bs with
 | nil => simp [actsT]
 | cons a bs ih =>
  have h1 := lineA_len (hok a (by simp))
  have h2 := hb a (by simp)
  have h3 := ih (fun x hx => hok x (by simp [hx])) (fun x hx => hb x (by simp [hx]))
  simp only [actsT, List.flatMap_cons, List.length_append, List.length_cons, List.length_nil] at h3 ⊢
  omega
theorem textS_fit {c : SCfg} {l : List (List POp)} {bs : List SAct} (hc : c.Ok) (hok : OkL l) (hbo : ∀ a ∈ bs, a.Ok) (h0 : schk c l bs = 0) : (textS c (textP l) bs).length ≤ 101000 + 580 * bs.length := by
 obtain ⟨hw0, hp0, _, hb4, hall⟩ := schk_ok h0
 obtain ⟨⟨a1, a2⟩, ⟨a3, a4⟩, ⟨a5, a6⟩, ⟨a7, a8⟩, hlim, hres, hm, ⟨fl0, fl1⟩⟩ := hc
 have f0 : -9223372036854775808 ≤ c.flaw := by omega
 have f1 : c.flaw ≤ 9223372036854775807 := by omega
 have k1 := itoa_len a1 a2
 have k2 := itoa_len a3 a4
 have k3 := itoa_len a5 a6
 have k4 := itoa_len a7 a8
 have k5 := itoa_lenU hlim
 have k6 := itoa_lenU hres
 have k7 := itoa_len f0 f1
 have k8 := hexP_len c.master
 have htb : (textP l).length ≤ 100000 := text_max2 hok hp0
 have ha := acts_len hbo fun a ha => actB_len (hall a ha)
 simp [textS, linesT, headsT, head0, head1, head2, head3, sVolume, sNonces, sFlaw, sMaster, sPrograms, sActions]
 omega
def encScrV (c : SCfg) (l : List (List POp)) (V : List (Bool × SAct)) : D := .cons (encCfg c) (.cons (encPL l) (.cons (.arr 5 encAV V) .nil))
theorem scrV_le {c : SCfg} {l : List (List POp)} {V : List (Bool × SAct)} {bs : List SAct} (hb : bs = V.map (·.2)) (hV : ∀ x ∈ V, AVOk x) : DLe (encScrV c l V) (encScr c l bs) := by
 rintro w X cs ⟨c1, x1, rfl, h1, c2, x2, rfl, h2, c3, x3, rfl, h3, h4⟩
 exact ⟨c1, _, rfl, h1, c2, _, rfl, h2, c3, _, rfl, encAVs_le hb hV _ _ _ h3, h4⟩
theorem scr_toV (c : SCfg) (l : List (List POp)) (bs : List SAct) : DLe (encScr c l bs) (encScrV c l (bs.map (Prod.mk false))) := by
 rintro w X cs ⟨c1, x1, rfl, h1, c2, x2, rfl, h2, c3, x3, rfl, h3, h4⟩
 exact ⟨c1, _, rfl, h1, c2, _, rfl, h2, c3, _, rfl, dle_arr (enc := encAct) (enc' := encAV) (g := Prod.mk false) rfl (fun _ _ => DLe.refl _) _ _ _ h3, h4⟩
theorem mapF (bs : List SAct) : bs = (bs.map (Prod.mk false)).map (·.2) := by rw [List.map_map]; exact (List.map_id _).symm
theorem mapF_ok (bs : List SAct) : ∀ x ∈ bs.map (Prod.mk false), AVOk x := by
 intro x hx
 obtain ⟨a, _, rfl⟩ := List.mem_map.1 hx
 exact fun h => by cases h
abbrev zAct : SAct := ⟨0, 0, 0, [], 0⟩
def manyV (bs : List SAct) : List (Bool × SAct) := List.replicate 4097 (true, zAct) ++ bs.map (Prod.mk false)
def manyA (bs : List SAct) : List SAct := List.replicate 4097 zAct ++ bs
theorem manyV_len (bs : List SAct) : (List.replicate 4097 (true, zAct)).length + (bs.map (Prod.mk false)).length = (manyV bs).length := by rw [manyV, List.length_append]
theorem manyV_map (bs : List SAct) : manyA bs = (manyV bs).map (·.2) := by
 rw [manyA, manyV, List.map_append, ← mapF, List.map_replicate]
theorem manyV_ok (bs : List SAct) : ∀ x ∈ manyV bs, AVOk x := by
 intro x hx
 rcases List.mem_append.1 hx with h | h
 ·obtain ⟨_, rfl⟩ := List.mem_replicate.1 h
  exact fun _ => rfl
 ·exact mapF_ok bs x h
theorem manyA_len (bs : List SAct) : (manyA bs).length = 4097 + bs.length := by rw [manyA, List.length_append, List.length_replicate]
theorem manyA_ok {bs : List SAct} (h : ∀ a ∈ bs, a.Ok) : ∀ a ∈ manyA bs, a.Ok := by
 intro a ha
 rcases List.mem_append.1 ha with h1 | h1
 ·obtain ⟨_, rfl⟩ := List.mem_replicate.1 h1
  exact ⟨by decide, by unfold InI; decide, by unfold InI; decide, by unfold InI; decide⟩
 ·exact h a h1
theorem many_chk (c : SCfg) (l : List (List POp)) (bs : List SAct) : schk c l (manyA bs) ≠ 0 := by
 intro h
 have := (schk_ok h).2.2.2.1
 rw [manyA_len] at this
 omega
theorem law34_checkV (c : SCfg) (l : List (List POp)) (bs : List SAct) (many : Bool) (hc : c.Ok) (hok : OkL l) (hbo : ∀ a ∈ bs, a.Ok) : FnIs Tryz.prog 3 [.d (encScrV c l (bs.map (Prod.mk false))), .bool many] [] (.bool true) [] := by
 refine fnIs_of tab_ok Tryz.func3 rfl rfl rfl ?_
 have hml : (bs.map (Prod.mk false)).length = bs.length := List.length_map _
 by_cases h1 : 10 < l.length
 ·have d1 : decide (10 < (l.length : Int)) = true := dT (by omega)
  refine sR ?_;refine rN ?_;refine rC ?_;refine nQ ?_;refine sR ?_;refine rC ?_;refine rQ iB ?_;refine rQ iE ?_;iterate 2 refine rC ?_
  iterate 4 refine rS ?_
  refine rQ iT ?_;refine nS ?_;refine wV ?_;refine sR ?_;refine rQ (call_r lives_is rfl rfl arg_nil (.inl rfl) (fun _ => rfl)) ?_;refine rC ?_;refine nS ?_;refine wc_ret ?_
  refine seq_r ?_
  exact ⟨trivial, [], lf⟩
 have d1 : decide (10 < (l.length : Int)) = false := dF (by omega)
 by_cases h2 : 150 < bs.length
 ·have d2 : decide (150 < ((bs.map (Prod.mk false)).length : Int)) = true := dT (by omega)
  refine sR ?_;refine rN ?_;refine rC ?_;refine nQ ?_;refine sR ?_;refine rC ?_;refine rQ iB ?_;refine rQ iE ?_;iterate 2 refine rC ?_
  refine rO ?_;refine rC ?_;refine rO ?_;refine rQ iB ?_;refine rO ?_;refine rQ iE ?_;refine rO ?_;refine rC ?_;refine rQ iF ?_;refine nS ?_;refine wT ?_;refine sR ?_
  refine rQ (call_r lives_is rfl rfl arg_nil (.inl rfl) (fun _ => rfl)) ?_;refine rC ?_;refine nS ?_;refine wc_ret ?_;refine seq_r ?_
  exact ⟨trivial, [], lf⟩
 have d2 : decide (150 < ((bs.map (Prod.mk false)).length : Int)) = false := dF (by omega)
 refine sR ?_;refine rN ?_;refine rC ?_;refine nQ ?_;refine sR ?_;refine rC ?_;refine rQ iB ?_;refine rQ iE ?_;iterate 2 refine rC ?_
 refine rO ?_;refine rC ?_;refine rO ?_;refine rQ iB ?_;refine rO ?_;refine rQ iE ?_;refine rO ?_;refine rC ?_;refine rQ iF ?_;refine nS ?_;refine wF ?_;refine kS ?_
 refine qR ?_;refine rC ?_;refine nS ?_;refine wc_block ?_
 refine wc_inv (fun i : Nat => ⟨[(5, .int .i64 i), (2, .ptr 64 []), (1, .bool many)], [(64, some (.box 30 (.d (encScrV c l (bs.map (Prod.mk false))))))], 72, Tryz.f3.ntmps, 64⟩) (fun i => i ≤ l.length ∧ ∀ j, j < i → ∀ p, l[j]? = some p → p.length ≤ 10) (fun i => l.length - i) 0 [(64, some _)] ⟨Nat.zero_le _, fun j hj => absurd hj (Nat.not_lt_zero _)⟩
  (.of rfl rfl rfl rfl rfl ⟨⟨_, rfl, .refl _⟩, rfl, ⟨_, rfl, .refl _⟩, rfl, ⟨_, rfl, .refl _⟩, rfl, trivial⟩ ⟨⟨rfl, rfl, _, rfl, .refl _⟩, trivial⟩) ?_
 rintro i ⟨hi, hall⟩
 refine wc_of ?_
 by_cases hlt : i < l.length
 ·have d0 : decide ((i : Int) < (l.length : Int)) = true := dT (by omega)
  obtain ⟨p, hp⟩ : ∃ p, l[i]? = some p := ⟨_, List.getElem?_eq_getElem hlt⟩
  have hp2 : l[((i : Int)).toNat]? = some p := by rw [Int.toNat_natCast]; exact hp
  by_cases h3 : 10 < p.length
  ·have d3 : decide (10 < (p.length : Int)) = true := dT (by omega)
   refine qR ?_;iterate 2 refine rC ?_
   refine rQ iB ?_;refine rQ iE ?_;refine rC ?_;refine nS ?_;refine wT ?_;refine kS ?_;refine wc_seq ?_;refine wc_block ?_;refine qR ?_;refine rC ?_;refine rQ iB ?_
   refine rC ?_;refine rQ (index_arr tab_ok rfl rfl rfl rfl rfl (by omega) hp2) ?_;refine rQ iL ?_;refine rQ iE ?_;refine rC ?_;refine nS ?_;refine wT ?_;refine sR ?_
   refine rQ (call_r lives_is rfl rfl arg_nil (.inl rfl) (fun _ => rfl)) ?_;refine rC ?_;refine nS ?_;refine wc_ret ?_;refine seq_r ?_;refine blk_r ?_;refine seq_r ?_
   refine loop_r ?_;refine blk_r ?_;refine seq_r ?_
   exact ⟨trivial, [], lf⟩
  have d3 : decide (10 < (p.length : Int)) = false := dF (by omega)
  refine qR ?_;iterate 2 refine rC ?_
  refine rQ iB ?_;refine rQ iE ?_;refine rC ?_;refine nS ?_;refine wT ?_;refine kS ?_;refine wc_seq ?_;refine wc_block ?_;refine qR ?_;refine rC ?_;refine rQ iB ?_
  refine rC ?_;refine rQ (index_arr tab_ok rfl rfl rfl rfl rfl (by omega) hp2) ?_;refine rQ iL ?_;refine rQ iE ?_;refine rC ?_;refine nS ?_;refine wF ?_;refine kS ?_
  refine sR ?_;refine rC ?_;refine nS ?_;refine wc_block ?_
  refine wc_inv (fun k : Nat => ⟨[(6, .int .i64 k), (5, .int .i64 i), (2, .ptr 64 []), (1, .bool many)], [(64, some (.box 30 (.d (encScrV c l (bs.map (Prod.mk false))))))], 72, Tryz.f3.ntmps, 64⟩) (fun k => k ≤ p.length) (fun k => p.length - k) 0 [(64, some _)] (Nat.zero_le _)
   (.of rfl rfl rfl rfl rfl ⟨⟨_, rfl, .refl _⟩, rfl, ⟨_, rfl, .refl _⟩, rfl, ⟨_, rfl, .refl _⟩, rfl, ⟨_, rfl, .refl _⟩, rfl, trivial⟩ ⟨⟨rfl, rfl, _, rfl, .refl _⟩, trivial⟩) ?_
  intro k hk
  refine wc_of ?_
  by_cases hkl : k < p.length
  ·have d4 : decide ((k : Int) < (p.length : Int)) = true := dT (by omega)
   obtain ⟨o, ho⟩ : ∃ o, p[k]? = some o := ⟨_, List.getElem?_eq_getElem hkl⟩
   have ho2 : p[((k : Int)).toNat]? = some o := by rw [Int.toNat_natCast]; exact ho
   cases h5 : decide (100 < ((byI o.data).length : Int)) with
   | true =>
    refine qR ?_;iterate 2 refine rC ?_
    refine rQ iB ?_;refine rC ?_;refine rQ (index_arr tab_ok rfl rfl rfl rfl rfl (by omega) hp2) ?_;refine rQ iL ?_;refine rQ iE ?_;refine rC ?_;refine nS ?_;refine wT ?_
    refine kS ?_;refine wc_seq ?_;refine wc_block ?_;refine sR ?_;refine rC ?_;refine rQ iB ?_;refine rC ?_;refine rQ (index_arr tab_ok rfl rfl rfl rfl rfl (by omega) hp2) ?_
    refine rQ iL ?_;refine rC ?_;refine rQ (index_arr tab_ok rfl rfl rfl rfl rfl (by omega) ho2) ?_;refine rC ?_;refine rQ iL ?_;refine rQ iE ?_;refine rC ?_;refine nS ?_
    refine wT ?_;refine sR ?_;refine rQ (call_r lives_is rfl rfl arg_nil (.inl rfl) (fun _ => rfl)) ?_;refine rC ?_;refine nS ?_;refine wc_ret ?_;refine blk_r ?_;refine seq_r ?_
    refine loop_r ?_;iterate 2 refine blk_r ?_
    refine seq_r ?_;refine loop_r ?_;refine blk_r ?_;refine seq_r ?_
    exact ⟨trivial, [], lf⟩
   | false =>
    refine qR ?_;iterate 2 refine rC ?_
    refine rQ iB ?_;refine rC ?_;refine rQ (index_arr tab_ok rfl rfl rfl rfl rfl (by omega) hp2) ?_;refine rQ iL ?_;refine rQ iE ?_;refine rC ?_;refine nS ?_;refine wT ?_
    refine kS ?_;refine wc_seq ?_;refine wc_block ?_;refine sR ?_;refine rC ?_;refine rQ iB ?_;refine rC ?_;refine rQ (index_arr tab_ok rfl rfl rfl rfl rfl (by omega) hp2) ?_
    refine rQ iL ?_;refine rC ?_;refine rQ (index_arr tab_ok rfl rfl rfl rfl rfl (by omega) ho2) ?_;refine rC ?_;refine rQ iL ?_;refine rQ iE ?_;refine rC ?_;refine nS ?_
    refine wF ?_;refine wc_skip ?_;refine blk_n ?_;refine seq_n ?_;refine wc_region ?_;refine rC ?_;refine rQ iD ?_;refine rC ?_;refine reg_nil ?_
    exact loop_n (k + 1) [(64, some _)] hkl (by omega) (.of rfl rfl rfl rfl rfl ⟨⟨_, rfl, .refl _⟩, rfl, ⟨_, rfl, .refl _⟩, rfl, ⟨_, rfl, .refl _⟩, rfl, ⟨_, rfl, .refl _⟩, rfl, trivial⟩ ⟨⟨rfl, rfl, _, rfl, .refl _⟩, trivial⟩)
  ·have d4 : decide ((k : Int) < (p.length : Int)) = false := dF (by omega)
   refine qR ?_;iterate 2 refine rC ?_
   refine rQ iB ?_;refine rC ?_;refine rQ (index_arr tab_ok rfl rfl rfl rfl rfl (by omega) hp2) ?_;refine rQ iL ?_;refine rQ iE ?_;refine rC ?_;refine nS ?_;refine wF ?_
   refine wc_exit ?_;refine seq_x ?_;refine loop_x ?_;refine blk_x ?_;refine blk_n ?_;refine seq_n ?_;refine wc_region ?_;refine rC ?_;refine rQ iD ?_;refine rC ?_
   refine reg_nil ?_
   exact loop_n (i + 1) [(64, some _)] ⟨hlt, fun j hj q hq => by
    by_cases e : j = i
    ·subst e; rw [hp] at hq; cases hq; omega
    ·exact hall j (by omega) q hq⟩ (by omega) (.of rfl rfl rfl rfl rfl ⟨⟨_, rfl, .refl _⟩, rfl, ⟨_, rfl, .refl _⟩, rfl, ⟨_, rfl, .refl _⟩, rfl, trivial⟩ ⟨⟨rfl, rfl, _, rfl, .refl _⟩, trivial⟩)
 ·have he : i = l.length := by omega
  subst he
  have d0 : decide ((l.length : Int) < (l.length : Int)) = false := dF (by omega)
  have hBd : Bd l := ⟨by omega, fun p hp => by
   obtain ⟨j, hj⟩ := List.mem_iff_getElem?.1 hp
   have := hall j (List.getElem?_eq_some_iff.1 hj).1 p hj
   omega⟩
  refine qR ?_;iterate 2 refine rC ?_
  refine rQ iB ?_;refine rQ iE ?_;refine rC ?_;refine nS ?_;refine wF ?_;refine wc_exit ?_;refine seq_x ?_;refine loop_x ?_;refine blk_x ?_;refine seq_n ?_;refine qR ?_
  refine rC ?_;refine nS ?_;refine wc_block ?_
  refine wc_inv (fun i : Nat => ⟨[(7, .int .i64 i), (2, .ptr 64 []), (1, .bool many)], [(64, some (.box 30 (.d (encScrV c l (bs.map (Prod.mk false))))))], 72, Tryz.f3.ntmps, 64⟩) (fun i => i ≤ bs.length) (fun i => bs.length - i) 0 [(64, some _)] (Nat.zero_le _)
   (.of rfl rfl rfl rfl rfl ⟨⟨_, rfl, .refl _⟩, rfl, ⟨_, rfl, .refl _⟩, rfl, ⟨_, rfl, .refl _⟩, rfl, trivial⟩ ⟨⟨rfl, rfl, _, rfl, .refl _⟩, trivial⟩) ?_
  intro i hi
  refine wc_of ?_
  by_cases hlt : i < bs.length
  ·have d5 : decide ((i : Int) < ((bs.map (Prod.mk false)).length : Int)) = true := dT (by omega)
   obtain ⟨a, ha⟩ : ∃ a, bs[i]? = some a := ⟨_, List.getElem?_eq_getElem hlt⟩
   have ha2 : (bs.map (Prod.mk false))[((i : Int)).toNat]? = some (false, a) := by rw [Int.toNat_natCast, List.getElem?_map, ha]; rfl
   cases h5 : decide (300 < ((byI a.bytes).length : Int)) with
   | true =>
    refine qR ?_;iterate 2 refine rC ?_
    refine rQ iB ?_;refine rQ iE ?_;refine rC ?_;refine nS ?_;refine wT ?_;refine kS ?_;refine wc_seq ?_;refine wc_block ?_;refine sR ?_;refine rC ?_;refine rQ iB ?_
    refine rC ?_;refine rQ (index_arr tab_ok rfl rfl rfl rfl rfl (by omega) ha2) ?_;refine rC ?_;refine rQ iL ?_;refine rQ iE ?_;refine rC ?_;refine nS ?_;refine wT ?_
    refine sR ?_;refine rQ (call_r lives_is rfl rfl arg_nil (.inl rfl) (fun _ => rfl)) ?_;refine rC ?_;refine nS ?_;refine wc_ret ?_;refine blk_r ?_;refine seq_r ?_
    refine loop_r ?_;refine blk_r ?_;refine seq_r ?_
    exact ⟨trivial, [], lf⟩
   | false =>
    refine qR ?_;iterate 2 refine rC ?_
    refine rQ iB ?_;refine rQ iE ?_;refine rC ?_;refine nS ?_;refine wT ?_;refine kS ?_;refine wc_seq ?_;refine wc_block ?_;refine sR ?_;refine rC ?_;refine rQ iB ?_
    refine rC ?_;refine rQ (index_arr tab_ok rfl rfl rfl rfl rfl (by omega) ha2) ?_;refine rC ?_;refine rQ iL ?_;refine rQ iE ?_;refine rC ?_;refine nS ?_;refine wF ?_
    refine wc_skip ?_;refine blk_n ?_;refine seq_n ?_;refine wc_region ?_;refine rC ?_;refine rQ iD ?_;refine rC ?_;refine reg_nil ?_
    exact loop_n (i + 1) [(64, some _)] hlt (by omega) (.of rfl rfl rfl rfl rfl ⟨⟨_, rfl, .refl _⟩, rfl, ⟨_, rfl, .refl _⟩, rfl, ⟨_, rfl, .refl _⟩, rfl, trivial⟩ ⟨⟨rfl, rfl, _, rfl, .refl _⟩, trivial⟩)
  ·have he : i = bs.length := by omega
   subst he
   have d5 : decide ((bs.length : Int) < ((bs.map (Prod.mk false)).length : Int)) = false := dF (by omega)
   have q1 : ∀ n : Int, (!decide (n = n)) = false := fun n => by rw [dT rfl]; rfl
   cases many with
   | false =>
    have hck := check34_is c l bs hc hBd (by omega)
    have hsc := scheck_is c l bs hc hBd (by omega)
    have htx := stext_is c l bs hc hBd hok (by omega) hbo
    by_cases h0 : schk c l bs = 0
    ·have hfit := textS_fit hc hok hbo h0
     rw [show textP2 c l bs = (textS c (textP l) bs, 0) by rw [textP2, if_neg (fun e => e h0), if_neg (by omega)]] at htx
     rw [h0] at hck hsc
     refine qR ?_;iterate 2 refine rC ?_
     refine rQ iB ?_;refine rQ iE ?_;refine rC ?_;refine nS ?_;refine wF ?_;refine wc_exit ?_;refine seq_x ?_;refine loop_x ?_;refine blk_x ?_;refine seq_n ?_;refine qR ?_
     refine rC ?_;refine nS ?_;refine wG ?_;refine kS ?_;refine sR ?_;refine rQ iM ?_;refine rQ (call_r hck rfl rfl (arg_d rfl trivial (scrV_le (mapF bs) (mapF_ok bs)) arg_nil) (.inr (PlainRes.sc _)) (fun _ => rfl)) ?_
     refine rC ?_;refine nR ?_;refine rQ iM ?_;refine rQ (call_r htx rfl rfl (arg_d rfl trivial (scrV_le (mapF bs) (mapF_ok bs)) arg_nil) (.inr (plT _ _)) (fun _ => rfl)) ?_
     iterate 5 refine rC ?_
     refine nQ ?_;refine sR ?_;refine rQ iM ?_;refine rQ (call_r hsc rfl rfl (arg_d rfl trivial (scrV_le (mapF bs) (mapF_ok bs)) arg_nil) (.inr (PlainRes.sc _)) (fun _ => rfl)) ?_
     iterate 3 refine rC ?_
     refine rP ?_;refine rC ?_;refine rP ?_;refine rC ?_;refine rP ?_;refine rC ?_;refine rQ iG ?_;refine nS ?_;refine wG ?_;refine kS ?_;refine sR ?_;iterate 3 refine rC ?_
     iterate 2 refine rT ?_
     refine rQ iU ?_;refine rC ?_;refine rP ?_;refine rQ (call_r lives_is rfl rfl arg_nil (.inl rfl) (fun _ => rfl)) ?_;refine rQ iU ?_;refine rC ?_;refine nS ?_;refine wc_ret ?_
     exact ⟨trivial, [], lf⟩
    ·rw [show textP2 c l bs = ([], schk c l bs) by rw [textP2, if_pos h0]] at htx
     have e0 : decide (schk c l bs = 0) = false := dF h0
     have e1 := q1 (schk c l bs)
     have e2 : decide (([] : List UInt8) = []) = true := rfl
     refine qR ?_;iterate 2 refine rC ?_
     refine rQ iB ?_;refine rQ iE ?_;refine rC ?_;refine nS ?_;refine wF ?_;refine wc_exit ?_;refine seq_x ?_;refine loop_x ?_;refine blk_x ?_;refine seq_n ?_;refine qR ?_
     refine rC ?_;refine nS ?_;refine wG ?_;refine kS ?_;refine sR ?_;refine rQ iM ?_;refine rQ (call_r hck rfl rfl (arg_d rfl trivial (scrV_le (mapF bs) (mapF_ok bs)) arg_nil) (.inr (PlainRes.sc _)) (fun _ => rfl)) ?_
     refine rC ?_;refine nR ?_;refine rQ iM ?_;refine rQ (call_r htx rfl rfl (arg_d rfl trivial (scrV_le (mapF bs) (mapF_ok bs)) arg_nil) (.inr (plT _ _)) (fun _ => rfl)) ?_
     iterate 5 refine rC ?_
     refine nQ ?_;refine sR ?_;refine rQ iM ?_;refine rQ (call_r hsc rfl rfl (arg_d rfl trivial (scrV_le (mapF bs) (mapF_ok bs)) arg_nil) (.inr (PlainRes.sc _)) (fun _ => rfl)) ?_
     iterate 3 refine rC ?_
     refine rO ?_;refine rC ?_;refine rO ?_;refine rC ?_;refine rO ?_;refine rC ?_;refine rQ iF ?_;refine nS ?_;refine wF ?_;refine kS ?_;refine sR ?_;iterate 3 refine rC ?_
     refine rO ?_;refine rC ?_;refine rO ?_;refine rQ (eql_s (a := []) (b := []) tab_ok rfl rfl rfl) ?_;refine rQ iF ?_;refine rC ?_;refine rP ?_;refine rQ (call_r lives_is rfl rfl arg_nil (.inl rfl) (fun _ => rfl)) ?_
     refine rQ iU ?_;refine rC ?_;refine nS ?_;refine wc_ret ?_
     exact ⟨trivial, [], lf⟩
   | true =>
    have h0 := many_chk c l bs
    have hck := check34_is c l (manyA bs) hc hBd (by rw [manyA_len]; omega)
    have hsc := scheck_is c l (manyA bs) hc hBd (by rw [manyA_len]; omega)
    have htx := stext_is c l (manyA bs) hc hBd hok (by rw [manyA_len]; omega) (manyA_ok hbo)
    rw [show textP2 c l (manyA bs) = ([], schk c l (manyA bs)) by rw [textP2, if_pos h0]] at htx
    have e0 : decide (schk c l (manyA bs) = 0) = false := dF h0
    have e1 := q1 (schk c l (manyA bs))
    have e2 : decide (([] : List UInt8) = []) = true := rfl
    have hL : 4097 = (List.replicate 4097 (true, zAct)).length := (List.length_replicate).symm
    by_cases hz : bs = []
    ·subst hz
     have hmE : manyA [] = (List.replicate 4097 (true, zAct)).map (·.2) := by rw [manyA, List.append_nil, List.map_replicate]
     have hkE : ∀ x ∈ List.replicate 4097 (true, zAct), AVOk x := fun x hx => by
      obtain ⟨_, rfl⟩ := List.mem_replicate.1 hx
      exact fun _ => rfl
     refine qR ?_;iterate 2 refine rC ?_
     refine rQ iB ?_;refine rQ iE ?_;refine rC ?_;refine nS ?_;refine wG ?_;refine wc_exit ?_;refine seq_x ?_;refine loop_x ?_;refine blk_x ?_;refine seq_n ?_;refine qR ?_
     refine rC ?_;refine nS ?_;refine wV ?_;refine wc_draw (by kernel_rfl) ?_;refine dreg_w [] [] rfl (make_full (enc := encAV) (s := 5) (N := 4097) tab_ok (true, zAct) rfl rfl rfl rfl rfl rfl rfl (by decide) rfl) ?_
     refine dC [2] [] ?_;refine dQ [77] [64] iB ?_;refine dQ [76, 78] [120] (append_own_e (enc := encAV) tab_ok rfl rfl rfl rfl) ?_;refine dC [2] [] ?_;refine dreg_s [80, 79] [64] (store_row tab_ok rfl rfl rfl ⟨_, ⟨_, ⟨rfl, rfl, rfl⟩, rfl⟩, rfl⟩ rfl) ?_
     refine dreg_end (by kernel_rfl) ?_;refine seq_n ?_;refine sR ?_;refine rQ iM ?_;refine rQ (call_r hck rfl rfl (arg_scr rfl hL (DLe.refl _) hmE hkE arg_nil) (.inr (PlainRes.sc _)) (fun _ => rfl)) ?_
     refine rC ?_;refine nR ?_;refine rQ iM ?_;refine rQ (call_r htx rfl rfl (arg_scr rfl hL (DLe.refl _) hmE hkE arg_nil) (.inr (plT _ _)) (fun _ => rfl)) ?_;iterate 5 refine rC ?_
     refine nQ ?_;refine sR ?_;refine rQ iM ?_;refine rQ (call_r hsc rfl rfl (arg_scr rfl hL (DLe.refl _) hmE hkE arg_nil) (.inr (PlainRes.sc _)) (fun _ => rfl)) ?_;iterate 3 refine rC ?_
     refine rO ?_;refine rC ?_;refine rO ?_;refine rC ?_;refine rO ?_;refine rC ?_;refine rQ iF ?_;refine nS ?_;refine wF ?_;refine kS ?_;refine sR ?_;iterate 3 refine rC ?_
     refine rO ?_;refine rC ?_;refine rO ?_;refine rQ (eql_s (a := []) (b := []) tab_ok rfl rfl rfl) ?_;refine rQ iF ?_;refine rC ?_;refine rP ?_;refine rQ (call_r lives_is rfl rfl arg_nil (.inl rfl) (fun _ => rfl)) ?_
     refine rQ iU ?_;refine rC ?_;refine nS ?_;refine wc_ret ?_
     exact ⟨trivial, [], lf⟩
    ·have hpos : 0 < (bs.map (Prod.mk false)).length := by rw [hml]; exact List.length_pos_iff.2 hz
     have hfit : (List.replicate 4097 (true, zAct)).length + (bs.map (Prod.mk false)).length ≤ 1048576 := by rw [hml, List.length_replicate]; omega
     refine qR ?_;iterate 2 refine rC ?_
     refine rQ iB ?_;refine rQ iE ?_;refine rC ?_;refine nS ?_;refine wF ?_;refine wc_exit ?_;refine seq_x ?_;refine loop_x ?_;refine blk_x ?_;refine seq_n ?_;refine qR ?_
     refine rC ?_;refine nS ?_;refine wV ?_;refine wc_draw (by kernel_rfl) ?_;refine dreg_w [] [] rfl (make_full (enc := encAV) (s := 5) (N := 4097) tab_ok (true, zAct) rfl rfl rfl rfl rfl rfl rfl (by decide) rfl) ?_
     refine dC [2] [] ?_;refine dQ [77] [64] iB ?_;refine dreg_w2 [76, 78] [120] rfl (append_arrL (xs := List.replicate 4097 (true, zAct)) (ys := bs.map (Prod.mk false)) (s := 5) (enc := encAV) tab_ok rfl rfl rfl rfl rfl hL rfl rfl hpos hfit rfl) ?_
     refine dC [2] [] ?_;refine dreg_s [80, 79] [64] (store_row tab_ok rfl rfl rfl ⟨_, ⟨_, ⟨rfl, rfl, rfl⟩, rfl⟩, rfl⟩ rfl) ?_;refine dreg_end (by kernel_rfl) ?_;refine seq_n ?_
     refine sR ?_;refine rQ iM ?_;refine rQ (call_r hck rfl rfl (arg_scr rfl (manyV_len bs) (DLe.refl _) (manyV_map bs) (manyV_ok bs) arg_nil) (.inr (PlainRes.sc _)) (fun _ => rfl)) ?_
     refine rC ?_;refine nR ?_;refine rQ iM ?_;refine rQ (call_r htx rfl rfl (arg_scr rfl (manyV_len bs) (DLe.refl _) (manyV_map bs) (manyV_ok bs) arg_nil) (.inr (plT _ _)) (fun _ => rfl)) ?_
     iterate 5 refine rC ?_
     refine nQ ?_;refine sR ?_;refine rQ iM ?_;refine rQ (call_r hsc rfl rfl (arg_scr rfl (manyV_len bs) (DLe.refl _) (manyV_map bs) (manyV_ok bs) arg_nil) (.inr (PlainRes.sc _)) (fun _ => rfl)) ?_
     iterate 3 refine rC ?_
     refine rO ?_;refine rC ?_;refine rO ?_;refine rC ?_;refine rO ?_;refine rC ?_;refine rQ iF ?_;refine nS ?_;refine wF ?_;refine kS ?_;refine sR ?_;iterate 3 refine rC ?_
     refine rO ?_;refine rC ?_;refine rO ?_;refine rQ (eql_s (a := []) (b := []) tab_ok rfl rfl rfl) ?_;refine rQ iF ?_;refine rC ?_;refine rP ?_;refine rQ (call_r lives_is rfl rfl arg_nil (.inl rfl) (fun _ => rfl)) ?_
     refine rQ iU ?_;refine rC ?_;refine nS ?_;refine wc_ret ?_
     exact ⟨trivial, [], lf⟩
theorem law34_check (c : SCfg) (l : List (List POp)) (bs : List SAct) (many : Bool) (hc : c.Ok) (hok : OkL l) (hbo : ∀ a ∈ bs, a.Ok) : FnIs Tryz.prog 3 [.d (encScr c l bs), .bool many] [] (.bool true) [] :=
 FnIs.args_le (show ArgsLe [.d (encScr c l bs), .bool many] [.d (encScrV c l (bs.map (Prod.mk false))), .bool many] from ⟨⟨AVLe.d (scr_toV c l bs) rfl, fun _ _ => trivial⟩, ⟨AVLe.refl _, fun _ _ => trivial⟩, trivial⟩) (law34_checkV c l bs many hc hok hbo)
end Go.Proofs.YthiijfbcfoifnaaGreatDoor
namespace Go.Proofs.YthiijfbcfoifnaaGreatDoor
open Go.Eng Go.Plain
theorem pu8_of {a : Int} (h : (Lit.int .u8 a).wf = true) : 0 ≤ a ∧ a ≤ 255 := by
 simp [Lit.wf, IntKind.min, IntKind.max, IntKind.bits, IntKind.signed] at h
 omega
theorem pi64_of {a : Int} (h : (Lit.int .i64 a).wf = true) : InI a := by
 simp [Lit.wf, IntKind.min, IntKind.max, IntKind.bits, IntKind.signed] at h
 exact ⟨by omega, by omega⟩
theorem pu64_of {a : Int} (h : (Lit.int .u64 a).wf = true) : InU a := by
 simp [Lit.wf, IntKind.min, IntKind.max, IntKind.bits, IntKind.signed] at h
 exact ⟨by omega, by omega⟩
def toB (l : List Int) : List UInt8 := l.map fun z => z.toNat.toUInt8
theorem toB_byI {l : List Int} (h : ∀ a ∈ l, (Lit.int .u8 a).wf = true) : byI (toB l) = l := by
 rw [byI, toB, List.map_map]
 have : ∀ a ∈ l, ((fun b : UInt8 => (b.toNat : Int)) ∘ fun z : Int => z.toNat.toUInt8) a = a := fun a ha => by
  obtain ⟨h1, h2⟩ := pu8_of (h a ha)
  simp only [Function.comp_apply, Nat.toUInt8_eq, UInt8.toNat_ofNat']
  omega
 rw [List.map_congr_left this, List.map_id'']
 exact fun _ => rfl
theorem opens_bytes : Opens Tryz.prog 34 1 (fun l : List UInt8 => encB l) fun _ => True :=
 Opens.map (opens_slice (P := Tryz.prog) Tryz.underlying34 (by kernel_rfl) (opens_int (P := Tryz.prog) Tryz.underlying5))
  toB (fun l h => by show D.arr 1 encU8 (byI (toB l)) = _; rw [toB_byI h.2]; rfl) (fun _ _ => trivial)
theorem toB_len (l : List Int) : (toB l).length = l.length := by simp [toB]
theorem opens_pop : Opens Tryz.prog 36 3 encPOp POp.Ok :=
 Opens.map (opens_struct (P := Tryz.prog) Tryz.underlying36 (by kernel_rfl) (fun _ => rfl) (opensF_cons rfl (by kernel_rfl) (opens_int (P := Tryz.prog) Tryz.underlying33) (opensF_cons rfl (by kernel_rfl) (opens_int (P := Tryz.prog) Tryz.underlying3) (opensF_cons rfl (by kernel_rfl) opens_bytes opensF_nil))))
  (fun q => ⟨q.1, q.2.1, q.2.2.1⟩) (fun _ _ => rfl) (fun _ h => ⟨pu8_of h.1, pi64_of h.2.1⟩)
theorem opens_ops : Opens Tryz.prog 32 1 encP fun l => ∀ o ∈ l, o.Ok :=
 Opens.map (opens_slice (P := Tryz.prog) Tryz.underlying32 (by kernel_rfl) opens_pop) id (fun _ _ => rfl) (fun _ h => h.2)
theorem opens_progs : Opens Tryz.prog 27 1 encPL fun l => OkL l :=
 Opens.map (opens_slice (P := Tryz.prog) Tryz.underlying27 (by kernel_rfl) opens_ops) id (fun _ _ => rfl) (fun _ h => h.2)
theorem opens_key : Opens Tryz.prog 24 32 (fun l : List UInt8 => encK l) fun l => l.length = 32 :=
 Opens.map (opens_array (P := Tryz.prog) Tryz.underlying24 (by kernel_rfl) (by kernel_rfl) (opens_int (P := Tryz.prog) Tryz.underlying5))
  toB (fun l h => by show D.vec 32 1 encU8 (byI (toB l)) = _; rw [toB_byI h.2]; rfl) (fun l h => by rw [toB_len]; exact h.1)
theorem opens_cfg : Opens Tryz.prog 26 39 encCfg SCfg.Ok :=
 Opens.map (opens_struct (P := Tryz.prog) Tryz.underlying26 (by kernel_rfl) (fun _ => rfl) (opensF_cons rfl (by kernel_rfl) (opens_int (P := Tryz.prog) Tryz.underlying3) (opensF_cons rfl (by kernel_rfl) (opens_int (P := Tryz.prog) Tryz.underlying3) (opensF_cons rfl (by kernel_rfl) (opens_int (P := Tryz.prog) Tryz.underlying3) (opensF_cons rfl (by kernel_rfl) (opens_int (P := Tryz.prog) Tryz.underlying3) (opensF_cons rfl (by kernel_rfl) (opens_int (P := Tryz.prog) Tryz.underlying22) (opensF_cons rfl (by kernel_rfl) (opens_int (P := Tryz.prog) Tryz.underlying22) (opensF_cons rfl (by kernel_rfl) opens_key (opensF_cons rfl (by kernel_rfl) (opens_int (P := Tryz.prog) Tryz.underlying5) opensF_nil)))))))))
  (fun q => ⟨q.1, q.2.1, q.2.2.1, q.2.2.2.1, q.2.2.2.2.1, q.2.2.2.2.2.1, q.2.2.2.2.2.2.1, q.2.2.2.2.2.2.2.1⟩) (fun _ _ => rfl) (fun _ h => ⟨pi64_of h.1, pi64_of h.2.1, pi64_of h.2.2.1, pi64_of h.2.2.2.1, pu64_of h.2.2.2.2.1, pu64_of h.2.2.2.2.2.1, h.2.2.2.2.2.2.1, pu8_of h.2.2.2.2.2.2.2.1⟩)
theorem opens_act : Opens Tryz.prog 39 5 encAct SAct.Ok :=
 Opens.map (opens_struct (P := Tryz.prog) Tryz.underlying39 (by kernel_rfl) (fun _ => rfl) (opensF_cons rfl (by kernel_rfl) (opens_int (P := Tryz.prog) Tryz.underlying37) (opensF_cons rfl (by kernel_rfl) (opens_int (P := Tryz.prog) Tryz.underlying3) (opensF_cons rfl (by kernel_rfl) (opens_int (P := Tryz.prog) Tryz.underlying3) (opensF_cons rfl (by kernel_rfl) opens_bytes (opensF_cons rfl (by kernel_rfl) (opens_int (P := Tryz.prog) Tryz.underlying3) opensF_nil))))))
  (fun q => ⟨q.1, q.2.1, q.2.2.1, q.2.2.2.1, q.2.2.2.2.1⟩) (fun _ _ => rfl) (fun _ h => ⟨pu8_of h.1, pi64_of h.2.1, pi64_of h.2.2.1, pi64_of h.2.2.2.2.1⟩)
theorem opens_acts : Opens Tryz.prog 28 1 encAs fun l => ∀ o ∈ l, o.Ok :=
 Opens.map (opens_slice (P := Tryz.prog) Tryz.underlying28 (by kernel_rfl) opens_act) id (fun _ _ => rfl) (fun _ h => h.2)
abbrev encS3 (s : SScr) : D := encScr s.1 s.2.1 s.2.2
theorem opens_script : Opens Tryz.prog 30 41 encS3 fun s => s.1.Ok ∧ OkL s.2.1 ∧ ∀ a ∈ s.2.2, a.Ok :=
 Opens.map (opens_struct (P := Tryz.prog) Tryz.underlying30 (by kernel_rfl) (fun _ => rfl) (opensF_cons rfl (by kernel_rfl) opens_cfg (opensF_cons rfl (by kernel_rfl) opens_progs (opensF_cons rfl (by kernel_rfl) opens_acts opensF_nil))))
  (fun q => (q.1, q.2.1, q.2.2.1)) (fun _ _ => rfl) (fun _ h => ⟨h.1, h.2.1, h.2.2.1⟩)
abbrev encIs (l : List Int) : D := .arr 1 i6 l
end Go.Proofs.YthiijfbcfoifnaaGreatDoor
