/- Texts of the proof: Z17, Z18, Z19, Z31, ZO. -/
import Derived.Test.YthiijfbcfoifnaaGreatDoorG06
import Derived.Test.YthiijfbcfoifnaaGreatDoorG04
import Derived.Test.YthiijfbcfoifnaaGreatDoorG02

set_option linter.unusedVariables false
set_option linter.unusedSimpArgs false
set_option linter.unusedSectionVars false

namespace Go.Proofs.YthiijfbcfoifnaaGreatDoor
open Go.Eng Go.Plain
set_option maxHeartbeats 4000000
set_option maxRecDepth 20000
attribute [local irreducible] WC RegS RegD SeqQ BlkQ ScoQ RegK CutK Sat SatN FnIs LoopQ StepIs OpIs
theorem eq_of_at {α : Type} {a b : List α} (hl : a.length = b.length) (h : ∀ j, j < a.length → a[j]? = b[j]?) : a = b := by
 refine List.ext_getElem? fun j => ?_
 by_cases hj : j < a.length
 ·exact h j hj
 ·rw [List.getElem?_eq_none (by omega), List.getElem?_eq_none (by omega)]
theorem alike_is (a b : List SAct) (ha : a.length ≤ 1000000000) (hb : b.length ≤ 1000000000) : FnIs Tryz.prog 19 [.d (encAs a), .d (encAs b)] [] (.int .i64 (if a = b then 1 else 0)) [] := by
 refine fnIs_of tab_ok Tryz.func19 rfl rfl rfl ?_;refine sR ?_;refine rC ?_;refine nQ ?_;refine sR ?_;refine rC ?_;refine rQ iE ?_;refine rC ?_;refine rQ iE ?_;refine rC ?_
 refine nS ?_
 by_cases hl : a.length = b.length
 ·have d1 : (!decide ((a.length : Int) = (b.length : Int))) = false := by rw [dT (by omega)]; rfl
  refine wF ?_;refine kS ?_;refine qR ?_;refine rC ?_;refine nS ?_;refine wc_block ?_
  refine wc_inv (fun i : Nat => ⟨[(5, .int .i64 i), (0, .d (encAs a)), (1, .d (encAs b))], [], 64, Tryz.f19.ntmps, 64⟩) (fun i => i ≤ a.length ∧ ∀ j, j < i → a[j]? = b[j]?) (fun i => a.length - i) 0 [] ⟨Nat.zero_le _, fun j hj => absurd hj (Nat.not_lt_zero _)⟩
   (.of rfl rfl rfl rfl rfl ⟨⟨_, rfl, .refl _⟩, rfl, ⟨_, rfl, .refl _⟩, rfl, ⟨_, rfl, .refl _⟩, rfl, trivial⟩ trivial) ?_
  rintro i ⟨hi, hall⟩
  refine wc_of ?_
  by_cases hlt : i < a.length
  ·have d0 : decide ((i : Int) < (a.length : Int)) = true := dT (by omega)
   obtain ⟨x, hx⟩ : ∃ x, a[i]? = some x := ⟨_, List.getElem?_eq_getElem hlt⟩
   obtain ⟨y, hy⟩ : ∃ y, b[i]? = some y := ⟨_, List.getElem?_eq_getElem (by omega)⟩
   have hx2 : a[((i : Int)).toNat]? = some x := by rw [Int.toNat_natCast]; exact hx
   have hy2 : b[((i : Int)).toNat]? = some y := by rw [Int.toNat_natCast]; exact hy
   by_cases hq : x = y
   ·subst hq
    have e1 : (!decide (x.kind = x.kind)) = false := by simp
    have e2 : (!decide (x.thread = x.thread)) = false := by simp
    have e3 : (!decide (x.sector = x.sector)) = false := by simp
    have e4 : (!decide (x.back = x.back)) = false := by simp
    have e5 : (!decide (strOf (byI x.bytes) = strOf (byI x.bytes))) = false := by simp
    refine qR ?_;iterate 2 refine rC ?_
    refine rQ iE ?_;refine rC ?_;refine nS ?_;refine wT ?_;refine kS ?_;refine wc_seq ?_;refine wc_block ?_;refine wc_seq ?_;refine wc_draw (by kernel_rfl) ?_;refine dC [0] [] ?_
    refine dC [5] [] ?_;refine dQ [17, 18] [] (index_arr tab_ok rfl rfl rfl rfl rfl (by omega) hx2) ?_;refine dC [19] [] ?_;refine dQ [20] [] iL ?_;refine dC [1] [] ?_
    refine dC [5] [] ?_;refine dQ [22, 23] [] (index_arr tab_ok rfl rfl rfl rfl rfl (by omega) hy2) ?_;refine dC [24] [] ?_;refine dQ [25] [] iL ?_;refine dC [21, 26] [] ?_
    refine dC [27] [] ?_;refine dreg_onq [28, 0] [] rfl rfl (by assumption) rfl (step_C tab_ok (fun K hk => hk)) ?_;refine dreg_onq [28, 5] [] rfl rfl (by assumption) rfl (step_C tab_ok (fun K hk => hk)) ?_
    refine dreg_onq [28, 29, 30] [] rfl rfl (by assumption) rfl (index_arr tab_ok rfl rfl rfl rfl rfl (by omega) hx2) ?_;refine dreg_onq [28, 31] [] rfl rfl (by assumption) rfl (step_C tab_ok (fun K hk => hk)) ?_
    refine dreg_onq [28, 32] [] rfl rfl (by assumption) rfl (load_i tab_ok rfl rfl) ?_;refine dreg_onq [28, 1] [] rfl rfl (by assumption) rfl (step_C tab_ok (fun K hk => hk)) ?_
    refine dreg_onq [28, 5] [] rfl rfl (by assumption) rfl (step_C tab_ok (fun K hk => hk)) ?_;refine dreg_onq [28, 34, 35] [] rfl rfl (by assumption) rfl (index_arr tab_ok rfl rfl rfl rfl rfl (by omega) hy2) ?_
    refine dreg_onq [28, 36] [] rfl rfl (by assumption) rfl (step_C tab_ok (fun K hk => hk)) ?_;refine dreg_onq [28, 37] [] rfl rfl (by assumption) rfl (load_i tab_ok rfl rfl) ?_
    refine dreg_onq [28, 33, 38] [] rfl rfl (by assumption) rfl (step_C tab_ok (fun K hk => hk)) ?_;refine dQ [28, 39] [] iF ?_;refine dC [40] [] ?_;refine dreg_onq [41, 0] [] rfl rfl (by assumption) rfl (step_C tab_ok (fun K hk => hk)) ?_
    refine dreg_onq [41, 5] [] rfl rfl (by assumption) rfl (step_C tab_ok (fun K hk => hk)) ?_;refine dreg_onq [41, 42, 43] [] rfl rfl (by assumption) rfl (index_arr tab_ok rfl rfl rfl rfl rfl (by omega) hx2) ?_
    refine dreg_onq [41, 44] [] rfl rfl (by assumption) rfl (step_C tab_ok (fun K hk => hk)) ?_;refine dreg_onq [41, 45] [] rfl rfl (by assumption) rfl (load_i tab_ok rfl rfl) ?_
    refine dreg_onq [41, 1] [] rfl rfl (by assumption) rfl (step_C tab_ok (fun K hk => hk)) ?_;refine dreg_onq [41, 5] [] rfl rfl (by assumption) rfl (step_C tab_ok (fun K hk => hk)) ?_
    refine dreg_onq [41, 47, 48] [] rfl rfl (by assumption) rfl (index_arr tab_ok rfl rfl rfl rfl rfl (by omega) hy2) ?_;refine dreg_onq [41, 49] [] rfl rfl (by assumption) rfl (step_C tab_ok (fun K hk => hk)) ?_
    refine dreg_onq [41, 50] [] rfl rfl (by assumption) rfl (load_i tab_ok rfl rfl) ?_;refine dreg_onq [41, 46, 51] [] rfl rfl (by assumption) rfl (step_C tab_ok (fun K hk => hk)) ?_
    refine dQ [41, 52] [] iF ?_;refine dC [53] [] ?_;refine dreg_onq [54, 0] [] rfl rfl (by assumption) rfl (step_C tab_ok (fun K hk => hk)) ?_;refine dreg_onq [54, 5] [] rfl rfl (by assumption) rfl (step_C tab_ok (fun K hk => hk)) ?_
    refine dreg_onq [54, 55, 56] [] rfl rfl (by assumption) rfl (index_arr tab_ok rfl rfl rfl rfl rfl (by omega) hx2) ?_;refine dreg_onq [54, 57] [] rfl rfl (by assumption) rfl (step_C tab_ok (fun K hk => hk)) ?_
    refine dreg_onq [54, 58] [] rfl rfl (by assumption) rfl (load_i tab_ok rfl rfl) ?_;refine dreg_onq [54, 1] [] rfl rfl (by assumption) rfl (step_C tab_ok (fun K hk => hk)) ?_
    refine dreg_onq [54, 5] [] rfl rfl (by assumption) rfl (step_C tab_ok (fun K hk => hk)) ?_;refine dreg_onq [54, 60, 61] [] rfl rfl (by assumption) rfl (index_arr tab_ok rfl rfl rfl rfl rfl (by omega) hy2) ?_
    refine dreg_onq [54, 62] [] rfl rfl (by assumption) rfl (step_C tab_ok (fun K hk => hk)) ?_;refine dreg_onq [54, 63] [] rfl rfl (by assumption) rfl (load_i tab_ok rfl rfl) ?_
    refine dreg_onq [54, 59, 64] [] rfl rfl (by assumption) rfl (step_C tab_ok (fun K hk => hk)) ?_;refine dQ [54, 65] [] iF ?_;refine dC [66] [] ?_;refine dreg_onq [67, 0] [] rfl rfl (by assumption) rfl (step_C tab_ok (fun K hk => hk)) ?_
    refine dreg_onq [67, 5] [] rfl rfl (by assumption) rfl (step_C tab_ok (fun K hk => hk)) ?_;refine dreg_onq [67, 68, 69] [] rfl rfl (by assumption) rfl (index_arr tab_ok rfl rfl rfl rfl rfl (by omega) hx2) ?_
    refine dreg_onq [67, 70] [] rfl rfl (by assumption) rfl (step_C tab_ok (fun K hk => hk)) ?_;refine dreg_onq [67, 71] [] rfl rfl (by assumption) rfl (load_i tab_ok rfl rfl) ?_
    refine dreg_onq [67, 72] [] rfl rfl (by assumption) rfl (conv_bytes tab_ok rfl rfl rfl rfl) ?_;refine dreg_onq [67, 1] [] rfl rfl (by assumption) rfl (step_C tab_ok (fun K hk => hk)) ?_
    refine dreg_onq [67, 5] [] rfl rfl (by assumption) rfl (step_C tab_ok (fun K hk => hk)) ?_;refine dreg_onq [67, 74, 75] [] rfl rfl (by assumption) rfl (index_arr tab_ok rfl rfl rfl rfl rfl (by omega) hy2) ?_
    refine dreg_onq [67, 76] [] rfl rfl (by assumption) rfl (step_C tab_ok (fun K hk => hk)) ?_;refine dreg_onq [67, 77] [] rfl rfl (by assumption) rfl (load_i tab_ok rfl rfl) ?_
    refine dreg_onq [67, 78] [] rfl rfl (by assumption) rfl (conv_bytes tab_ok rfl rfl rfl rfl) ?_;refine dreg_onq [67, 73, 79] [] rfl rfl (by assumption) rfl (neq_str tab_ok rfl rfl rfl) ?_
    refine dQ [67, 80] [] iF ?_;refine dreg_end (by kernel_rfl) ?_;refine seq_n ?_;refine wF ?_;refine wc_skip ?_;refine blk_n ?_;refine seq_n ?_;refine wc_region ?_
    refine rC ?_;refine rQ iD ?_;refine rC ?_;refine reg_nil ?_
    exact loop_n (i + 1) [] ⟨hlt, fun j hj => by
     by_cases e : j = i
     ·subst e; rw [hx, hy]
     ·exact hall j (by omega)⟩ (by omega) (.of rfl rfl rfl rfl rfl ⟨⟨_, rfl, .refl _⟩, rfl, ⟨_, rfl, .refl _⟩, rfl, ⟨_, rfl, .refl _⟩, rfl, trivial⟩ trivial)
   ·rw [if_neg (show ¬ a = b from fun e => by subst e; rw [hx] at hy; cases hy; exact hq rfl)]
    by_cases k1 : x.kind = y.kind
    ·have e1 : (!decide (x.kind = y.kind)) = false := by simp [k1]
     by_cases k2 : x.thread = y.thread
     ·have e2 : (!decide (x.thread = y.thread)) = false := by simp [k2]
      by_cases k3 : x.sector = y.sector
      ·have e3 : (!decide (x.sector = y.sector)) = false := by simp [k3]
       by_cases k4 : x.back = y.back
       ·have e4 : (!decide (x.back = y.back)) = false := by simp [k4]
        have k5 : ¬ x.bytes = y.bytes := fun k5 => hq (by cases x; cases y; simp_all)
        have e5 : (!decide (strOf (byI x.bytes) = strOf (byI y.bytes))) = true := by rw [strOf_byI, strOf_byI, mkS_dec]; simp [k5]
        refine qR ?_;iterate 2 refine rC ?_
        refine rQ iE ?_;refine rC ?_;refine nS ?_;refine wT ?_;refine kS ?_;refine wc_seq ?_;refine wc_block ?_;refine wc_seq ?_;refine wc_draw (by kernel_rfl) ?_;refine dC [0] [] ?_
        refine dC [5] [] ?_;refine dQ [17, 18] [] (index_arr tab_ok rfl rfl rfl rfl rfl (by omega) hx2) ?_;refine dC [19] [] ?_;refine dQ [20] [] iL ?_;refine dC [1] [] ?_
        refine dC [5] [] ?_;refine dQ [22, 23] [] (index_arr tab_ok rfl rfl rfl rfl rfl (by omega) hy2) ?_;refine dC [24] [] ?_;refine dQ [25] [] iL ?_;refine dC [21, 26] [] ?_
        refine dC [27] [] ?_;refine dreg_onq [28, 0] [] rfl rfl (by assumption) rfl (step_C tab_ok (fun K hk => hk)) ?_;refine dreg_onq [28, 5] [] rfl rfl (by assumption) rfl (step_C tab_ok (fun K hk => hk)) ?_
        refine dreg_onq [28, 29, 30] [] rfl rfl (by assumption) rfl (index_arr tab_ok rfl rfl rfl rfl rfl (by omega) hx2) ?_;refine dreg_onq [28, 31] [] rfl rfl (by assumption) rfl (step_C tab_ok (fun K hk => hk)) ?_
        refine dreg_onq [28, 32] [] rfl rfl (by assumption) rfl (load_i tab_ok rfl rfl) ?_;refine dreg_onq [28, 1] [] rfl rfl (by assumption) rfl (step_C tab_ok (fun K hk => hk)) ?_
        refine dreg_onq [28, 5] [] rfl rfl (by assumption) rfl (step_C tab_ok (fun K hk => hk)) ?_;refine dreg_onq [28, 34, 35] [] rfl rfl (by assumption) rfl (index_arr tab_ok rfl rfl rfl rfl rfl (by omega) hy2) ?_
        refine dreg_onq [28, 36] [] rfl rfl (by assumption) rfl (step_C tab_ok (fun K hk => hk)) ?_;refine dreg_onq [28, 37] [] rfl rfl (by assumption) rfl (load_i tab_ok rfl rfl) ?_
        refine dreg_onq [28, 33, 38] [] rfl rfl (by assumption) rfl (step_C tab_ok (fun K hk => hk)) ?_;refine dQ [28, 39] [] iF ?_;refine dC [40] [] ?_;refine dreg_onq [41, 0] [] rfl rfl (by assumption) rfl (step_C tab_ok (fun K hk => hk)) ?_
        refine dreg_onq [41, 5] [] rfl rfl (by assumption) rfl (step_C tab_ok (fun K hk => hk)) ?_;refine dreg_onq [41, 42, 43] [] rfl rfl (by assumption) rfl (index_arr tab_ok rfl rfl rfl rfl rfl (by omega) hx2) ?_
        refine dreg_onq [41, 44] [] rfl rfl (by assumption) rfl (step_C tab_ok (fun K hk => hk)) ?_;refine dreg_onq [41, 45] [] rfl rfl (by assumption) rfl (load_i tab_ok rfl rfl) ?_
        refine dreg_onq [41, 1] [] rfl rfl (by assumption) rfl (step_C tab_ok (fun K hk => hk)) ?_;refine dreg_onq [41, 5] [] rfl rfl (by assumption) rfl (step_C tab_ok (fun K hk => hk)) ?_
        refine dreg_onq [41, 47, 48] [] rfl rfl (by assumption) rfl (index_arr tab_ok rfl rfl rfl rfl rfl (by omega) hy2) ?_;refine dreg_onq [41, 49] [] rfl rfl (by assumption) rfl (step_C tab_ok (fun K hk => hk)) ?_
        refine dreg_onq [41, 50] [] rfl rfl (by assumption) rfl (load_i tab_ok rfl rfl) ?_;refine dreg_onq [41, 46, 51] [] rfl rfl (by assumption) rfl (step_C tab_ok (fun K hk => hk)) ?_
        refine dQ [41, 52] [] iF ?_;refine dC [53] [] ?_;refine dreg_onq [54, 0] [] rfl rfl (by assumption) rfl (step_C tab_ok (fun K hk => hk)) ?_;refine dreg_onq [54, 5] [] rfl rfl (by assumption) rfl (step_C tab_ok (fun K hk => hk)) ?_
        refine dreg_onq [54, 55, 56] [] rfl rfl (by assumption) rfl (index_arr tab_ok rfl rfl rfl rfl rfl (by omega) hx2) ?_;refine dreg_onq [54, 57] [] rfl rfl (by assumption) rfl (step_C tab_ok (fun K hk => hk)) ?_
        refine dreg_onq [54, 58] [] rfl rfl (by assumption) rfl (load_i tab_ok rfl rfl) ?_;refine dreg_onq [54, 1] [] rfl rfl (by assumption) rfl (step_C tab_ok (fun K hk => hk)) ?_
        refine dreg_onq [54, 5] [] rfl rfl (by assumption) rfl (step_C tab_ok (fun K hk => hk)) ?_;refine dreg_onq [54, 60, 61] [] rfl rfl (by assumption) rfl (index_arr tab_ok rfl rfl rfl rfl rfl (by omega) hy2) ?_
        refine dreg_onq [54, 62] [] rfl rfl (by assumption) rfl (step_C tab_ok (fun K hk => hk)) ?_;refine dreg_onq [54, 63] [] rfl rfl (by assumption) rfl (load_i tab_ok rfl rfl) ?_
        refine dreg_onq [54, 59, 64] [] rfl rfl (by assumption) rfl (step_C tab_ok (fun K hk => hk)) ?_;refine dQ [54, 65] [] iF ?_;refine dC [66] [] ?_;refine dreg_onq [67, 0] [] rfl rfl (by assumption) rfl (step_C tab_ok (fun K hk => hk)) ?_
        refine dreg_onq [67, 5] [] rfl rfl (by assumption) rfl (step_C tab_ok (fun K hk => hk)) ?_;refine dreg_onq [67, 68, 69] [] rfl rfl (by assumption) rfl (index_arr tab_ok rfl rfl rfl rfl rfl (by omega) hx2) ?_
        refine dreg_onq [67, 70] [] rfl rfl (by assumption) rfl (step_C tab_ok (fun K hk => hk)) ?_;refine dreg_onq [67, 71] [] rfl rfl (by assumption) rfl (load_i tab_ok rfl rfl) ?_
        refine dreg_onq [67, 72] [] rfl rfl (by assumption) rfl (conv_bytes tab_ok rfl rfl rfl rfl) ?_;refine dreg_onq [67, 1] [] rfl rfl (by assumption) rfl (step_C tab_ok (fun K hk => hk)) ?_
        refine dreg_onq [67, 5] [] rfl rfl (by assumption) rfl (step_C tab_ok (fun K hk => hk)) ?_;refine dreg_onq [67, 74, 75] [] rfl rfl (by assumption) rfl (index_arr tab_ok rfl rfl rfl rfl rfl (by omega) hy2) ?_
        refine dreg_onq [67, 76] [] rfl rfl (by assumption) rfl (step_C tab_ok (fun K hk => hk)) ?_;refine dreg_onq [67, 77] [] rfl rfl (by assumption) rfl (load_i tab_ok rfl rfl) ?_
        refine dreg_onq [67, 78] [] rfl rfl (by assumption) rfl (conv_bytes tab_ok rfl rfl rfl rfl) ?_;refine dreg_onq [67, 73, 79] [] rfl rfl (by assumption) rfl (neq_str tab_ok rfl rfl rfl) ?_
        refine dQ [67, 80] [] iF ?_;refine dreg_end (by kernel_rfl) ?_;refine seq_n ?_;refine wT ?_;refine sR ?_;refine rC ?_;refine nS ?_;refine wc_ret ?_;refine blk_r ?_
        refine seq_r ?_;refine loop_r ?_;refine blk_r ?_;refine seq_r ?_
        exact ⟨trivial, [], lf⟩
       ·have e4 : (!decide (x.back = y.back)) = true := by simp [k4]
        refine qR ?_;iterate 2 refine rC ?_
        refine rQ iE ?_;refine rC ?_;refine nS ?_;refine wT ?_;refine kS ?_;refine wc_seq ?_;refine wc_block ?_;refine wc_seq ?_;refine wc_draw (by kernel_rfl) ?_;refine dC [0] [] ?_
        refine dC [5] [] ?_;refine dQ [17, 18] [] (index_arr tab_ok rfl rfl rfl rfl rfl (by omega) hx2) ?_;refine dC [19] [] ?_;refine dQ [20] [] iL ?_;refine dC [1] [] ?_
        refine dC [5] [] ?_;refine dQ [22, 23] [] (index_arr tab_ok rfl rfl rfl rfl rfl (by omega) hy2) ?_;refine dC [24] [] ?_;refine dQ [25] [] iL ?_;refine dC [21, 26] [] ?_
        refine dC [27] [] ?_;refine dreg_onq [28, 0] [] rfl rfl (by assumption) rfl (step_C tab_ok (fun K hk => hk)) ?_;refine dreg_onq [28, 5] [] rfl rfl (by assumption) rfl (step_C tab_ok (fun K hk => hk)) ?_
        refine dreg_onq [28, 29, 30] [] rfl rfl (by assumption) rfl (index_arr tab_ok rfl rfl rfl rfl rfl (by omega) hx2) ?_;refine dreg_onq [28, 31] [] rfl rfl (by assumption) rfl (step_C tab_ok (fun K hk => hk)) ?_
        refine dreg_onq [28, 32] [] rfl rfl (by assumption) rfl (load_i tab_ok rfl rfl) ?_;refine dreg_onq [28, 1] [] rfl rfl (by assumption) rfl (step_C tab_ok (fun K hk => hk)) ?_
        refine dreg_onq [28, 5] [] rfl rfl (by assumption) rfl (step_C tab_ok (fun K hk => hk)) ?_;refine dreg_onq [28, 34, 35] [] rfl rfl (by assumption) rfl (index_arr tab_ok rfl rfl rfl rfl rfl (by omega) hy2) ?_
        refine dreg_onq [28, 36] [] rfl rfl (by assumption) rfl (step_C tab_ok (fun K hk => hk)) ?_;refine dreg_onq [28, 37] [] rfl rfl (by assumption) rfl (load_i tab_ok rfl rfl) ?_
        refine dreg_onq [28, 33, 38] [] rfl rfl (by assumption) rfl (step_C tab_ok (fun K hk => hk)) ?_;refine dQ [28, 39] [] iF ?_;refine dC [40] [] ?_;refine dreg_onq [41, 0] [] rfl rfl (by assumption) rfl (step_C tab_ok (fun K hk => hk)) ?_
        refine dreg_onq [41, 5] [] rfl rfl (by assumption) rfl (step_C tab_ok (fun K hk => hk)) ?_;refine dreg_onq [41, 42, 43] [] rfl rfl (by assumption) rfl (index_arr tab_ok rfl rfl rfl rfl rfl (by omega) hx2) ?_
        refine dreg_onq [41, 44] [] rfl rfl (by assumption) rfl (step_C tab_ok (fun K hk => hk)) ?_;refine dreg_onq [41, 45] [] rfl rfl (by assumption) rfl (load_i tab_ok rfl rfl) ?_
        refine dreg_onq [41, 1] [] rfl rfl (by assumption) rfl (step_C tab_ok (fun K hk => hk)) ?_;refine dreg_onq [41, 5] [] rfl rfl (by assumption) rfl (step_C tab_ok (fun K hk => hk)) ?_
        refine dreg_onq [41, 47, 48] [] rfl rfl (by assumption) rfl (index_arr tab_ok rfl rfl rfl rfl rfl (by omega) hy2) ?_;refine dreg_onq [41, 49] [] rfl rfl (by assumption) rfl (step_C tab_ok (fun K hk => hk)) ?_
        refine dreg_onq [41, 50] [] rfl rfl (by assumption) rfl (load_i tab_ok rfl rfl) ?_;refine dreg_onq [41, 46, 51] [] rfl rfl (by assumption) rfl (step_C tab_ok (fun K hk => hk)) ?_
        refine dQ [41, 52] [] iF ?_;refine dC [53] [] ?_;refine dreg_onq [54, 0] [] rfl rfl (by assumption) rfl (step_C tab_ok (fun K hk => hk)) ?_;refine dreg_onq [54, 5] [] rfl rfl (by assumption) rfl (step_C tab_ok (fun K hk => hk)) ?_
        refine dreg_onq [54, 55, 56] [] rfl rfl (by assumption) rfl (index_arr tab_ok rfl rfl rfl rfl rfl (by omega) hx2) ?_;refine dreg_onq [54, 57] [] rfl rfl (by assumption) rfl (step_C tab_ok (fun K hk => hk)) ?_
        refine dreg_onq [54, 58] [] rfl rfl (by assumption) rfl (load_i tab_ok rfl rfl) ?_;refine dreg_onq [54, 1] [] rfl rfl (by assumption) rfl (step_C tab_ok (fun K hk => hk)) ?_
        refine dreg_onq [54, 5] [] rfl rfl (by assumption) rfl (step_C tab_ok (fun K hk => hk)) ?_;refine dreg_onq [54, 60, 61] [] rfl rfl (by assumption) rfl (index_arr tab_ok rfl rfl rfl rfl rfl (by omega) hy2) ?_
        refine dreg_onq [54, 62] [] rfl rfl (by assumption) rfl (step_C tab_ok (fun K hk => hk)) ?_;refine dreg_onq [54, 63] [] rfl rfl (by assumption) rfl (load_i tab_ok rfl rfl) ?_
        refine dreg_onq [54, 59, 64] [] rfl rfl (by assumption) rfl (step_C tab_ok (fun K hk => hk)) ?_;refine dQ [54, 65] [] iF ?_;refine dC [66] [] ?_;refine dreg_offq [67, 0] rfl rfl (by assumption) rfl ?_
        refine dreg_offq [67, 5] rfl rfl (by assumption) rfl ?_;refine dreg_offq [67, 68, 69] rfl rfl (by assumption) rfl ?_;refine dreg_offq [67, 70] rfl rfl (by assumption) rfl ?_
        refine dreg_offq [67, 71] rfl rfl (by assumption) rfl ?_;refine dreg_offq [67, 72] rfl rfl (by assumption) rfl ?_;refine dreg_offq [67, 1] rfl rfl (by assumption) rfl ?_
        refine dreg_offq [67, 5] rfl rfl (by assumption) rfl ?_;refine dreg_offq [67, 74, 75] rfl rfl (by assumption) rfl ?_;refine dreg_offq [67, 76] rfl rfl (by assumption) rfl ?_
        refine dreg_offq [67, 77] rfl rfl (by assumption) rfl ?_;refine dreg_offq [67, 78] rfl rfl (by assumption) rfl ?_;refine dreg_offq [67, 73, 79] rfl rfl (by assumption) rfl ?_
        refine dQ [67, 80] [] iT ?_;refine dreg_end (by kernel_rfl) ?_;refine seq_n ?_;refine wV ?_;refine sR ?_;refine rC ?_;refine nS ?_;refine wc_ret ?_;refine blk_r ?_
        refine seq_r ?_;refine loop_r ?_;refine blk_r ?_;refine seq_r ?_
        exact ⟨trivial, [], lf⟩
      ·have e3 : (!decide (x.sector = y.sector)) = true := by simp [k3]
       refine qR ?_;iterate 2 refine rC ?_
       refine rQ iE ?_;refine rC ?_;refine nS ?_;refine wT ?_;refine kS ?_;refine wc_seq ?_;refine wc_block ?_;refine wc_seq ?_;refine wc_draw (by kernel_rfl) ?_;refine dC [0] [] ?_
       refine dC [5] [] ?_;refine dQ [17, 18] [] (index_arr tab_ok rfl rfl rfl rfl rfl (by omega) hx2) ?_;refine dC [19] [] ?_;refine dQ [20] [] iL ?_;refine dC [1] [] ?_
       refine dC [5] [] ?_;refine dQ [22, 23] [] (index_arr tab_ok rfl rfl rfl rfl rfl (by omega) hy2) ?_;refine dC [24] [] ?_;refine dQ [25] [] iL ?_;refine dC [21, 26] [] ?_
       refine dC [27] [] ?_;refine dreg_onq [28, 0] [] rfl rfl (by assumption) rfl (step_C tab_ok (fun K hk => hk)) ?_;refine dreg_onq [28, 5] [] rfl rfl (by assumption) rfl (step_C tab_ok (fun K hk => hk)) ?_
       refine dreg_onq [28, 29, 30] [] rfl rfl (by assumption) rfl (index_arr tab_ok rfl rfl rfl rfl rfl (by omega) hx2) ?_;refine dreg_onq [28, 31] [] rfl rfl (by assumption) rfl (step_C tab_ok (fun K hk => hk)) ?_
       refine dreg_onq [28, 32] [] rfl rfl (by assumption) rfl (load_i tab_ok rfl rfl) ?_;refine dreg_onq [28, 1] [] rfl rfl (by assumption) rfl (step_C tab_ok (fun K hk => hk)) ?_
       refine dreg_onq [28, 5] [] rfl rfl (by assumption) rfl (step_C tab_ok (fun K hk => hk)) ?_;refine dreg_onq [28, 34, 35] [] rfl rfl (by assumption) rfl (index_arr tab_ok rfl rfl rfl rfl rfl (by omega) hy2) ?_
       refine dreg_onq [28, 36] [] rfl rfl (by assumption) rfl (step_C tab_ok (fun K hk => hk)) ?_;refine dreg_onq [28, 37] [] rfl rfl (by assumption) rfl (load_i tab_ok rfl rfl) ?_
       refine dreg_onq [28, 33, 38] [] rfl rfl (by assumption) rfl (step_C tab_ok (fun K hk => hk)) ?_;refine dQ [28, 39] [] iF ?_;refine dC [40] [] ?_;refine dreg_onq [41, 0] [] rfl rfl (by assumption) rfl (step_C tab_ok (fun K hk => hk)) ?_
       refine dreg_onq [41, 5] [] rfl rfl (by assumption) rfl (step_C tab_ok (fun K hk => hk)) ?_;refine dreg_onq [41, 42, 43] [] rfl rfl (by assumption) rfl (index_arr tab_ok rfl rfl rfl rfl rfl (by omega) hx2) ?_
       refine dreg_onq [41, 44] [] rfl rfl (by assumption) rfl (step_C tab_ok (fun K hk => hk)) ?_;refine dreg_onq [41, 45] [] rfl rfl (by assumption) rfl (load_i tab_ok rfl rfl) ?_
       refine dreg_onq [41, 1] [] rfl rfl (by assumption) rfl (step_C tab_ok (fun K hk => hk)) ?_;refine dreg_onq [41, 5] [] rfl rfl (by assumption) rfl (step_C tab_ok (fun K hk => hk)) ?_
       refine dreg_onq [41, 47, 48] [] rfl rfl (by assumption) rfl (index_arr tab_ok rfl rfl rfl rfl rfl (by omega) hy2) ?_;refine dreg_onq [41, 49] [] rfl rfl (by assumption) rfl (step_C tab_ok (fun K hk => hk)) ?_
       refine dreg_onq [41, 50] [] rfl rfl (by assumption) rfl (load_i tab_ok rfl rfl) ?_;refine dreg_onq [41, 46, 51] [] rfl rfl (by assumption) rfl (step_C tab_ok (fun K hk => hk)) ?_
       refine dQ [41, 52] [] iF ?_;refine dC [53] [] ?_;refine dreg_offq [54, 0] rfl rfl (by assumption) rfl ?_;refine dreg_offq [54, 5] rfl rfl (by assumption) rfl ?_
       refine dreg_offq [54, 55, 56] rfl rfl (by assumption) rfl ?_;refine dreg_offq [54, 57] rfl rfl (by assumption) rfl ?_;refine dreg_offq [54, 58] rfl rfl (by assumption) rfl ?_
       refine dreg_offq [54, 1] rfl rfl (by assumption) rfl ?_;refine dreg_offq [54, 5] rfl rfl (by assumption) rfl ?_;refine dreg_offq [54, 60, 61] rfl rfl (by assumption) rfl ?_
       refine dreg_offq [54, 62] rfl rfl (by assumption) rfl ?_;refine dreg_offq [54, 63] rfl rfl (by assumption) rfl ?_;refine dreg_offq [54, 59, 64] rfl rfl (by assumption) rfl ?_
       refine dQ [54, 65] [] iT ?_;refine dC [66] [] ?_;refine dreg_offq [67, 0] rfl rfl rfl rfl ?_;refine dreg_offq [67, 5] rfl rfl rfl rfl ?_;refine dreg_offq [67, 68, 69] rfl rfl rfl rfl ?_
       refine dreg_offq [67, 70] rfl rfl rfl rfl ?_;refine dreg_offq [67, 71] rfl rfl rfl rfl ?_;refine dreg_offq [67, 72] rfl rfl rfl rfl ?_;refine dreg_offq [67, 1] rfl rfl rfl rfl ?_
       refine dreg_offq [67, 5] rfl rfl rfl rfl ?_;refine dreg_offq [67, 74, 75] rfl rfl rfl rfl ?_;refine dreg_offq [67, 76] rfl rfl rfl rfl ?_;refine dreg_offq [67, 77] rfl rfl rfl rfl ?_
       refine dreg_offq [67, 78] rfl rfl rfl rfl ?_;refine dreg_offq [67, 73, 79] rfl rfl rfl rfl ?_;refine dQ [67, 80] [] iU ?_;refine dreg_end (by kernel_rfl) ?_;refine seq_n ?_
       refine wV ?_;refine sR ?_;refine rC ?_;refine nS ?_;refine wc_ret ?_;refine blk_r ?_;refine seq_r ?_;refine loop_r ?_;refine blk_r ?_;refine seq_r ?_
       exact ⟨trivial, [], lf⟩
     ·have e2 : (!decide (x.thread = y.thread)) = true := by simp [k2]
      refine qR ?_;iterate 2 refine rC ?_
      refine rQ iE ?_;refine rC ?_;refine nS ?_;refine wT ?_;refine kS ?_;refine wc_seq ?_;refine wc_block ?_;refine wc_seq ?_;refine wc_draw (by kernel_rfl) ?_;refine dC [0] [] ?_
      refine dC [5] [] ?_;refine dQ [17, 18] [] (index_arr tab_ok rfl rfl rfl rfl rfl (by omega) hx2) ?_;refine dC [19] [] ?_;refine dQ [20] [] iL ?_;refine dC [1] [] ?_
      refine dC [5] [] ?_;refine dQ [22, 23] [] (index_arr tab_ok rfl rfl rfl rfl rfl (by omega) hy2) ?_;refine dC [24] [] ?_;refine dQ [25] [] iL ?_;refine dC [21, 26] [] ?_
      refine dC [27] [] ?_;refine dreg_onq [28, 0] [] rfl rfl (by assumption) rfl (step_C tab_ok (fun K hk => hk)) ?_;refine dreg_onq [28, 5] [] rfl rfl (by assumption) rfl (step_C tab_ok (fun K hk => hk)) ?_
      refine dreg_onq [28, 29, 30] [] rfl rfl (by assumption) rfl (index_arr tab_ok rfl rfl rfl rfl rfl (by omega) hx2) ?_;refine dreg_onq [28, 31] [] rfl rfl (by assumption) rfl (step_C tab_ok (fun K hk => hk)) ?_
      refine dreg_onq [28, 32] [] rfl rfl (by assumption) rfl (load_i tab_ok rfl rfl) ?_;refine dreg_onq [28, 1] [] rfl rfl (by assumption) rfl (step_C tab_ok (fun K hk => hk)) ?_
      refine dreg_onq [28, 5] [] rfl rfl (by assumption) rfl (step_C tab_ok (fun K hk => hk)) ?_;refine dreg_onq [28, 34, 35] [] rfl rfl (by assumption) rfl (index_arr tab_ok rfl rfl rfl rfl rfl (by omega) hy2) ?_
      refine dreg_onq [28, 36] [] rfl rfl (by assumption) rfl (step_C tab_ok (fun K hk => hk)) ?_;refine dreg_onq [28, 37] [] rfl rfl (by assumption) rfl (load_i tab_ok rfl rfl) ?_
      refine dreg_onq [28, 33, 38] [] rfl rfl (by assumption) rfl (step_C tab_ok (fun K hk => hk)) ?_;refine dQ [28, 39] [] iF ?_;refine dC [40] [] ?_;refine dreg_offq [41, 0] rfl rfl (by assumption) rfl ?_
      refine dreg_offq [41, 5] rfl rfl (by assumption) rfl ?_;refine dreg_offq [41, 42, 43] rfl rfl (by assumption) rfl ?_;refine dreg_offq [41, 44] rfl rfl (by assumption) rfl ?_
      refine dreg_offq [41, 45] rfl rfl (by assumption) rfl ?_;refine dreg_offq [41, 1] rfl rfl (by assumption) rfl ?_;refine dreg_offq [41, 5] rfl rfl (by assumption) rfl ?_
      refine dreg_offq [41, 47, 48] rfl rfl (by assumption) rfl ?_;refine dreg_offq [41, 49] rfl rfl (by assumption) rfl ?_;refine dreg_offq [41, 50] rfl rfl (by assumption) rfl ?_
      refine dreg_offq [41, 46, 51] rfl rfl (by assumption) rfl ?_;refine dQ [41, 52] [] iT ?_;refine dC [53] [] ?_;refine dreg_offq [54, 0] rfl rfl rfl rfl ?_;refine dreg_offq [54, 5] rfl rfl rfl rfl ?_
      refine dreg_offq [54, 55, 56] rfl rfl rfl rfl ?_;refine dreg_offq [54, 57] rfl rfl rfl rfl ?_;refine dreg_offq [54, 58] rfl rfl rfl rfl ?_;refine dreg_offq [54, 1] rfl rfl rfl rfl ?_
      refine dreg_offq [54, 5] rfl rfl rfl rfl ?_;refine dreg_offq [54, 60, 61] rfl rfl rfl rfl ?_;refine dreg_offq [54, 62] rfl rfl rfl rfl ?_;refine dreg_offq [54, 63] rfl rfl rfl rfl ?_
      refine dreg_offq [54, 59, 64] rfl rfl rfl rfl ?_;refine dQ [54, 65] [] iU ?_;refine dC [66] [] ?_;refine dreg_offq [67, 0] rfl rfl rfl rfl ?_;refine dreg_offq [67, 5] rfl rfl rfl rfl ?_
      refine dreg_offq [67, 68, 69] rfl rfl rfl rfl ?_;refine dreg_offq [67, 70] rfl rfl rfl rfl ?_;refine dreg_offq [67, 71] rfl rfl rfl rfl ?_;refine dreg_offq [67, 72] rfl rfl rfl rfl ?_
      refine dreg_offq [67, 1] rfl rfl rfl rfl ?_;refine dreg_offq [67, 5] rfl rfl rfl rfl ?_;refine dreg_offq [67, 74, 75] rfl rfl rfl rfl ?_;refine dreg_offq [67, 76] rfl rfl rfl rfl ?_
      refine dreg_offq [67, 77] rfl rfl rfl rfl ?_;refine dreg_offq [67, 78] rfl rfl rfl rfl ?_;refine dreg_offq [67, 73, 79] rfl rfl rfl rfl ?_;refine dQ [67, 80] [] iU ?_
      refine dreg_end (by kernel_rfl) ?_;refine seq_n ?_;refine wV ?_;refine sR ?_;refine rC ?_;refine nS ?_;refine wc_ret ?_;refine blk_r ?_;refine seq_r ?_;refine loop_r ?_
      refine blk_r ?_;refine seq_r ?_
      exact ⟨trivial, [], lf⟩
    ·have e1 : (!decide (x.kind = y.kind)) = true := by simp [k1]
     refine qR ?_;iterate 2 refine rC ?_
     refine rQ iE ?_;refine rC ?_;refine nS ?_;refine wT ?_;refine kS ?_;refine wc_seq ?_;refine wc_block ?_;refine wc_seq ?_;refine wc_draw (by kernel_rfl) ?_;refine dC [0] [] ?_
     refine dC [5] [] ?_;refine dQ [17, 18] [] (index_arr tab_ok rfl rfl rfl rfl rfl (by omega) hx2) ?_;refine dC [19] [] ?_;refine dQ [20] [] iL ?_;refine dC [1] [] ?_
     refine dC [5] [] ?_;refine dQ [22, 23] [] (index_arr tab_ok rfl rfl rfl rfl rfl (by omega) hy2) ?_;refine dC [24] [] ?_;refine dQ [25] [] iL ?_;refine dC [21, 26] [] ?_
     refine dC [27] [] ?_;refine dreg_offq [28, 0] rfl rfl (by assumption) rfl ?_;refine dreg_offq [28, 5] rfl rfl (by assumption) rfl ?_;refine dreg_offq [28, 29, 30] rfl rfl (by assumption) rfl ?_
     refine dreg_offq [28, 31] rfl rfl (by assumption) rfl ?_;refine dreg_offq [28, 32] rfl rfl (by assumption) rfl ?_;refine dreg_offq [28, 1] rfl rfl (by assumption) rfl ?_
     refine dreg_offq [28, 5] rfl rfl (by assumption) rfl ?_;refine dreg_offq [28, 34, 35] rfl rfl (by assumption) rfl ?_;refine dreg_offq [28, 36] rfl rfl (by assumption) rfl ?_
     refine dreg_offq [28, 37] rfl rfl (by assumption) rfl ?_;refine dreg_offq [28, 33, 38] rfl rfl (by assumption) rfl ?_;refine dQ [28, 39] [] iT ?_;refine dC [40] [] ?_
     refine dreg_offq [41, 0] rfl rfl rfl rfl ?_;refine dreg_offq [41, 5] rfl rfl rfl rfl ?_;refine dreg_offq [41, 42, 43] rfl rfl rfl rfl ?_;refine dreg_offq [41, 44] rfl rfl rfl rfl ?_
     refine dreg_offq [41, 45] rfl rfl rfl rfl ?_;refine dreg_offq [41, 1] rfl rfl rfl rfl ?_;refine dreg_offq [41, 5] rfl rfl rfl rfl ?_;refine dreg_offq [41, 47, 48] rfl rfl rfl rfl ?_
     refine dreg_offq [41, 49] rfl rfl rfl rfl ?_;refine dreg_offq [41, 50] rfl rfl rfl rfl ?_;refine dreg_offq [41, 46, 51] rfl rfl rfl rfl ?_;refine dQ [41, 52] [] iU ?_
     refine dC [53] [] ?_;refine dreg_offq [54, 0] rfl rfl rfl rfl ?_;refine dreg_offq [54, 5] rfl rfl rfl rfl ?_;refine dreg_offq [54, 55, 56] rfl rfl rfl rfl ?_;refine dreg_offq [54, 57] rfl rfl rfl rfl ?_
     refine dreg_offq [54, 58] rfl rfl rfl rfl ?_;refine dreg_offq [54, 1] rfl rfl rfl rfl ?_;refine dreg_offq [54, 5] rfl rfl rfl rfl ?_;refine dreg_offq [54, 60, 61] rfl rfl rfl rfl ?_
     refine dreg_offq [54, 62] rfl rfl rfl rfl ?_;refine dreg_offq [54, 63] rfl rfl rfl rfl ?_;refine dreg_offq [54, 59, 64] rfl rfl rfl rfl ?_;refine dQ [54, 65] [] iU ?_
     refine dC [66] [] ?_;refine dreg_offq [67, 0] rfl rfl rfl rfl ?_;refine dreg_offq [67, 5] rfl rfl rfl rfl ?_;refine dreg_offq [67, 68, 69] rfl rfl rfl rfl ?_;refine dreg_offq [67, 70] rfl rfl rfl rfl ?_
     refine dreg_offq [67, 71] rfl rfl rfl rfl ?_;refine dreg_offq [67, 72] rfl rfl rfl rfl ?_;refine dreg_offq [67, 1] rfl rfl rfl rfl ?_;refine dreg_offq [67, 5] rfl rfl rfl rfl ?_
     refine dreg_offq [67, 74, 75] rfl rfl rfl rfl ?_;refine dreg_offq [67, 76] rfl rfl rfl rfl ?_;refine dreg_offq [67, 77] rfl rfl rfl rfl ?_;refine dreg_offq [67, 78] rfl rfl rfl rfl ?_
     refine dreg_offq [67, 73, 79] rfl rfl rfl rfl ?_;refine dQ [67, 80] [] iU ?_;refine dreg_end (by kernel_rfl) ?_;refine seq_n ?_;refine wV ?_;refine sR ?_;refine rC ?_
     refine nS ?_;refine wc_ret ?_;refine blk_r ?_;refine seq_r ?_;refine loop_r ?_;refine blk_r ?_;refine seq_r ?_
     exact ⟨trivial, [], lf⟩
  ·have he : i = a.length := by omega
   subst he
   have d0 : decide ((a.length : Int) < (a.length : Int)) = false := dF (by omega)
   rw [if_pos (eq_of_at hl hall)]
   refine qR ?_;iterate 2 refine rC ?_
   refine rQ iE ?_;refine rC ?_;refine nS ?_;refine wF ?_;refine wc_exit ?_;refine seq_x ?_;refine loop_x ?_;refine blk_x ?_;refine seq_n ?_;refine sR ?_;refine rC ?_
   refine nS ?_;refine wc_ret ?_
   exact ⟨trivial, [], lf⟩
 ·have d1 : (!decide ((a.length : Int) = (b.length : Int))) = true := by rw [dF (by omega)]; rfl
  rw [if_neg (show ¬ a = b from fun e => hl (by rw [e]))]
  refine wT ?_;refine sR ?_;refine rC ?_;refine nS ?_;refine wc_ret ?_;refine seq_r ?_
  exact ⟨trivial, [], lf⟩
def exC : SCfg := ⟨1, 1, 3, 1, 8, 8, List.replicate 32 0, 0⟩
abbrev exV : List (Bool × SAct) := [(true, ⟨1, 0, 0, [], 0⟩), (false, ⟨2, 0, 2, [10, 255], 0⟩), (true, ⟨3, 0, 1, [], 0⟩), (true, ⟨4, 0, 0, [], 1⟩), (true, ⟨5, 0, 0, [], 0⟩)]
def encNL : Unit → D := fun _ => .sc nil_
theorem ex_is : FnIs Tryz.prog 17 [] [] (.acons (.d (encCfg exC)) (.acons (.d (.arr 1 encNL [()])) (.acons (.own 64 0 5 5 none) (.d .nil)))) [(64, .ds 39 5 true encAV exV)] := by
 refine fnIs_of tab_ok Tryz.func17 rfl rfl rfl ?_;refine sR ?_;refine rN ?_;refine nR ?_;refine rQ iS ?_;refine rQ (StepIs.frozen (build_slice (s := 1) tab_ok rfl rfl rfl rfl rfl rfl rfl rfl) (Frz.lits1 (enc := encNL) () rfl rfl)) ?_
 refine rQ iS ?_;refine rQ (StepIs.frozen (build_slice (s := 1) tab_ok rfl rfl rfl rfl rfl rfl rfl rfl) (Frz.lits2 (enc := encU8) (10 : Int) (255 : Int) rfl rfl rfl rfl)) ?_
 iterate 4 refine rQ iS ?_
 refine reg_new (build_list (s := 5) (enc := encAV) (xs := exV) tab_ok rfl rfl rfl rfl rfl rfl rfl rfl rfl encAV_size rfl) rfl ?_;refine rQ iS ?_;refine rW ?_;refine nS ?_
 refine wc_ret ?_
 exact ⟨trivial, _, rfl, [(64, some _)], .of rfl rfl rfl rfl rfl ⟨⟨_, rfl, AVLe.of_eq rfl⟩, rfl, trivial⟩ ⟨⟨rfl, rfl, _, rfl, .refl _⟩, trivial⟩⟩
def exL (t s : Int) : List SAct := [⟨1, t, 0, [], 0⟩, ⟨2, 0, 2, [10, 255], 0⟩, ⟨3, 0, s, [], 0⟩, ⟨4, 0, 0, [], 1⟩, ⟨5, 0, 0, [], 0⟩]
theorem exL_0 : schk exC [[]] (exL 0 1) = 0 := by decide +kernel
theorem exL_2 : schk exC [[]] (exL 2 1) = 1 := by decide +kernel
theorem exL_1 : schk exC [[]] (exL 1 1) = 0 := by decide +kernel
theorem exL_4 : schk exC [[]] (exL 1 4) = 1 := by decide +kernel
def lvA : List UInt8 := [118, 111, 108, 117, 109, 101, 32, 49, 32, 49, 32, 51, 32, 49, 10, 110, 111, 110, 99, 101, 115, 32, 56, 32, 56, 10, 102, 108, 97, 119, 32, 48, 10, 109, 97, 115, 116, 101, 114, 32]
def lvB : List UInt8 := [10, 112, 114, 111, 103, 114, 97, 109, 115, 10]
def lvC : List UInt8 := [97, 99, 116, 105, 111, 110, 115, 10, 112, 105, 99, 107, 32, 48, 10, 101, 100, 105, 116, 32, 50, 32, 48, 97, 102, 102, 10, 101, 114, 97, 115, 101, 32, 49, 10, 114, 101, 112, 108, 97, 121, 32, 48, 32, 49, 10, 102, 97, 108, 108, 10]
theorem exT : textP2 exC [[]] (exL 0 1) = (lvA ++ hexP (List.replicate 32 0) ++ lvB ++ textP [[]] ++ lvC, 0) := by decide +kernel
theorem exP : chkP [[]] = 0 := by decide +kernel
def px1 : List UInt8 := [118, 111, 108, 117, 109, 101, 32, 49, 32, 49, 32, 51, 10]
def px2 : List UInt8 := [118, 111, 108, 117, 109, 101, 32, 49, 32, 49, 32, 51, 32, 49, 10, 110, 111, 110, 99, 101, 115, 32, 56, 32, 48, 56, 10]
def px3 : List UInt8 := [118, 111, 108, 117, 109, 101, 32, 49, 32, 49, 32, 51, 32, 49]
theorem px_1 : parseX px1 = (zScr, 1, 5) := by decide +kernel
theorem px_2 : parseX px2 = (zScr, 2, 5) := by decide +kernel
theorem px_3 : parseX px3 = (zScr, 0, 5) := by decide +kernel
theorem exC_ok : exC.Ok := ⟨by unfold InI exC; decide, by unfold InI exC; decide, by unfold InI exC; decide, by unfold InI exC; decide, by unfold InU exC; decide, by unfold InU exC; decide, rfl, by unfold exC; decide⟩
abbrev exW (t s : Int) : List (Bool × SAct) := [(true, ⟨1, t, 0, [], 0⟩), (false, ⟨2, 0, 2, [10, 255], 0⟩), (true, ⟨3, 0, s, [], 0⟩), (true, ⟨4, 0, 0, [], 1⟩), (true, ⟨5, 0, 0, [], 0⟩)]
theorem exW_ok (t s : Int) : ∀ x ∈ exW t s, AVOk x := by
 intro x hx
 simp only [exW, List.mem_cons, List.not_mem_nil, or_false] at hx
 rcases hx with rfl | rfl | rfl | rfl | rfl
 ·exact fun _ => rfl
 ·exact fun h => by cases h
 ·exact fun _ => rfl
 ·exact fun _ => rfl
 ·exact fun _ => rfl
theorem nl_le : DLe (.arr 1 encNL [()]) (encPL [[]]) := dle_arr (g := fun _ => []) rfl fun _ _ => DLe.nil_arr 3 encPOp
theorem arg_scr {look : Nat → Option Row} {ρ : Nat → Option Nat} {c : SCfg} {l : List (List POp)} {r n te : Nat} {ex : Bool} {cap : Option Nat} {P : D} {V : List (Bool × SAct)} {bs : List SAct} {bs9 avs : List AV} (hr : look r = some (.ds te 5 ex encAV V)) (hn : n = V.length) (hP : DLe P (encPL l)) (hb : bs = V.map (·.2)) (hV : ∀ x ∈ V, AVOk x) (h : ArgsA look ρ bs9 avs) :
  ArgsA look ρ (.acons (.d (encCfg c)) (.acons (.d P) (.acons (.own r 0 n 5 cap) (.d .nil))) :: bs9) (.d (encScr c l bs) :: avs) :=
 ⟨_, avs, rfl, ⟨rfl, rfl⟩, ⟨rfl, _, _, rfl, DLe.refl _, _, _, rfl, hP, _, _, rfl, by subst hn; simp only [ArgD, hr]; exact ⟨trivial, by simp, V, by simp, encAVs_le hb hV⟩, DLe.refl _⟩, h⟩
theorem exL_len (t s : Int) : (exL t s).length ≤ 1000000000 := by show 5 ≤ _; decide
theorem exL_W (t s : Int) : exL t s = (exW t s).map (·.2) := rfl
theorem nb : Bd [[]] := ⟨by decide, fun p hp => by simp only [List.mem_cons, List.not_mem_nil, or_false] at hp; subst hp; decide⟩
theorem nok : OkL [[]] := fun p hp => by simp only [List.mem_cons, List.not_mem_nil, or_false] at hp; subst hp; intro o ho; cases ho
theorem exL_ok : ∀ a ∈ exL 0 1, a.Ok := by
 intro a ha
 simp only [exL, List.mem_cons, List.not_mem_nil, or_false] at ha
 rcases ha with rfl | rfl | rfl | rfl | rfl <;> exact ⟨by decide, by unfold InI; decide, by unfold InI; decide, by unfold InI; decide⟩
theorem plT (l : List UInt8) (e : Int) : PlainRes (.tup (.acons (.d (strD l)) (.acons (.d (i6 e)) .anil))) [] := PlainRes.of ⟨trivial, trivial, trivial⟩ plain_rows_nil
theorem plC : PlainRes (.tup (.acons (.int .i64 (cA isP (exL 0 1))) (.acons (.int .i64 (cA isE (exL 0 1))) (.acons (.int .i64 (cA isF (exL 0 1))) .anil)))) [] := PlainRes.of ⟨trivial, trivial, trivial, trivial⟩ plain_rows_nil
theorem lives_is : FnIs Tryz.prog 10 [] [] (.bool true) [] := by
 have hl1 : lvA.length + (hexP (List.replicate 32 0)).length ≤ 9223372036854775807 := by decide +kernel
 have hl2 : (lvA ++ hexP (List.replicate 32 0)).length + lvB.length ≤ 9223372036854775807 := by decide +kernel
 have hl3 : (lvA ++ hexP (List.replicate 32 0) ++ lvB).length + (textP [[]]).length ≤ 9223372036854775807 := by decide +kernel
 have hl4 : (lvA ++ hexP (List.replicate 32 0) ++ lvB ++ textP [[]]).length + lvC.length ≤ 9223372036854775807 := by decide +kernel
 have hne : (!decide (mkS (lvA ++ hexP (List.replicate 32 0) ++ lvB ++ textP [[]] ++ lvC) = mkS (lvA ++ hexP (List.replicate 32 0) ++ lvB ++ textP [[]] ++ lvC))) = false := by simp
 have hHex := rhex34_is (List.replicate 32 0) (by decide)
 have hText := stext_is exC [[]] (exL 0 1) exC_ok nb nok (exL_len _ _) exL_ok
 have hProg := text_is [[]] nb nok
 have hC0 := scheck_is exC [[]] (exL 0 1) exC_ok nb (exL_len _ _)
 have hC2 := scheck_is exC [[]] (exL 2 1) exC_ok nb (exL_len _ _)
 have hC1 := scheck_is exC [[]] (exL 1 1) exC_ok nb (exL_len _ _)
 have hC4 := scheck_is exC [[]] (exL 1 4) exC_ok nb (exL_len _ _)
 have hCnt := countA_is exC [[]] (exL 0 1) (exL_len _ _)
 have hP1 := sparse_is px1
 have hP2 := sparse_is px2
 have hP3 := sparse_is px3
 rw [exT] at hText
 rw [exP, if_pos rfl] at hProg
 rw [exL_0] at hC0
 rw [exL_2] at hC2
 rw [exL_1] at hC1
 rw [exL_4] at hC4
 rw [px_1] at hP1
 rw [px_2] at hP2
 rw [px_3] at hP3
 refine fnIs_of tab_ok Tryz.func10 rfl rfl rfl ?_;refine sR ?_;refine rC ?_;refine nR ?_;refine reg_new (call_new ex_is rfl rfl arg_nil (.inl rfl) rfl rfl) rfl ?_
 refine rN ?_;refine rW ?_;refine nR ?_;refine rQ iM ?_;refine rQ (call_r hText rfl rfl (arg_scr rfl rfl nl_le (exL_W 0 1) (exW_ok 0 1) arg_nil) (.inr (plT _ _)) (fun _ => rfl)) ?_
 iterate 5 refine rC ?_
 refine nR ?_;refine rC ?_;refine rQ iM ?_;refine rQ (call_r hProg rfl rfl (arg_d rfl trivial nl_le arg_nil) (.inl rfl) (fun _ => rfl)) ?_;iterate 5 refine rC ?_
 refine nR ?_;refine reg_new (make_full (enc := encU8) (s := 1) (N := 32) tab_ok 0 rfl rfl rfl rfl rfl rfl rfl (by decide) rfl) rfl ?_;refine rQ (call_r hHex rfl rfl (arg_ownL (xs := byI (List.replicate 32 0)) (enc := encU8) (s := 1) rfl rfl arg_nil) (.inr (PlainRes.sc _)) (fun _ => rfl)) ?_
 refine rQ (add_str (a := lvA) (b := hexP (List.replicate 32 0)) rfl rfl hl1 rfl) ?_;refine rQ (add_str (a := lvA ++ hexP (List.replicate 32 0)) (b := lvB) rfl rfl hl2 rfl) ?_
 refine rC ?_;refine nQ ?_;refine sR ?_;iterate 3 refine rC ?_
 refine rP ?_;refine rC ?_;refine rP ?_;refine rC ?_;refine rQ iG ?_;refine rC ?_;refine rP ?_;refine rQ iM ?_;refine rP ?_;refine rQ (call_r hC0 rfl rfl (arg_scr rfl rfl nl_le (exL_W 0 1) (exW_ok 0 1) arg_nil) (.inr (PlainRes.sc _)) (fun _ => rfl)) ?_
 refine rP ?_;refine rC ?_;refine rQ iG ?_;refine rC ?_;refine rP ?_;refine rC ?_;refine rP ?_;refine rC ?_;refine rP ?_;refine rC ?_;refine rP ?_;refine rQ (add_str (a := lvA ++ hexP (List.replicate 32 0) ++ lvB) (b := textP [[]]) rfl rfl hl3 rfl) ?_
 refine rP ?_;refine rQ (add_str (a := lvA ++ hexP (List.replicate 32 0) ++ lvB ++ textP [[]]) (b := lvC) rfl rfl hl4 rfl) ?_;refine rP ?_;refine rQ (neq_str tab_ok rfl rfl rfl) ?_
 refine rQ iG ?_;refine nS ?_;refine wG ?_;refine kS ?_;refine sR ?_;refine rQ iM ?_;refine rQ (call_r hCnt rfl rfl (arg_scr rfl rfl nl_le (exL_W 0 1) (exW_ok 0 1) arg_nil) (.inr plC) (fun _ => rfl)) ?_
 iterate 7 refine rC ?_
 refine nR ?_;refine rC ?_;refine rQ iM ?_;refine rQ (index_own tab_ok rfl rfl rfl rfl rfl (by omega) (by omega)) ?_;refine rC ?_;refine reg_store (store_row tab_ok rfl rfl rfl ⟨rfl, (true, ⟨1, 0, 0, [], 0⟩), (true, ⟨1, 2, 0, [], 0⟩), rfl, ⟨_, ⟨rfl, rfl, rfl⟩, rfl⟩, rfl⟩ rfl) ?_
 refine nR ?_;refine rQ iM ?_;refine rQ (call_r hC2 rfl rfl (arg_scr rfl rfl nl_le (exL_W 2 1) (exW_ok 2 1) arg_nil) (.inr (PlainRes.sc _)) (fun _ => rfl)) ?_;refine rC ?_
 refine nR ?_;refine rC ?_;refine rQ iM ?_;refine rQ (index_own tab_ok rfl rfl rfl rfl rfl (by omega) (by omega)) ?_;refine rC ?_;refine reg_store (store_row tab_ok rfl rfl rfl ⟨rfl, (true, ⟨1, 2, 0, [], 0⟩), (true, ⟨1, 1, 0, [], 0⟩), rfl, ⟨_, ⟨rfl, rfl, rfl⟩, rfl⟩, rfl⟩ rfl) ?_
 refine nR ?_;refine rQ iM ?_;refine rQ (call_r hC1 rfl rfl (arg_scr rfl rfl nl_le (exL_W 1 1) (exW_ok 1 1) arg_nil) (.inr (PlainRes.sc _)) (fun _ => rfl)) ?_;refine rC ?_
 refine nR ?_;refine rC ?_;refine rQ iM ?_;refine rQ (index_own tab_ok rfl rfl rfl rfl rfl (by omega) (by omega)) ?_;refine rC ?_;refine reg_store (store_row tab_ok rfl rfl rfl ⟨rfl, (true, ⟨3, 0, 1, [], 0⟩), (true, ⟨3, 0, 4, [], 0⟩), rfl, ⟨_, ⟨rfl, rfl, rfl⟩, rfl⟩, rfl⟩ rfl) ?_
 refine nQ ?_;refine sR ?_;refine rQ (StepIs.frozen (build_slice (s := 1) tab_ok rfl rfl rfl rfl rfl rfl rfl rfl) (Frz.litsN (enc := strD) [px1, px2, px3] rfl (fun _ _ => rfl))) ?_
 refine rQ iE ?_;refine rC ?_;refine nS ?_;refine wc_block ?_
 refine wc_inv (fun i : Nat => ⟨[(76, .int .i64 i), (75, .int .i64 3), (74, .d (.arr 1 strD [px1, px2, px3])), (1, .ptr 64 []), (7, .int .i64 1), (8, .int .i64 3), (9, .int .i64 1), (10, .int .i64 1), (11, .int .i64 0)], [(64, some (.box 30 (.acons (.d (encCfg exC)) (.acons (.d (.arr 1 encNL [()])) (.acons (.own 65 0 5 5 none) (.d .nil)))))), (65, some (.ds 39 5 true encAV (exW 1 4)))], 72, Tryz.f10.ntmps, 64⟩) (fun i => i ≤ 3) (fun i => 3 - i) 0 [(64, some _), (65, some _)] (Nat.zero_le _)
  (.of rfl rfl rfl rfl rfl ⟨⟨_, rfl, .refl _⟩, rfl, ⟨_, rfl, .refl _⟩, rfl, ⟨_, rfl, .refl _⟩, rfl, ⟨_, rfl, .refl _⟩, rfl, ⟨_, rfl, .refl _⟩, rfl, ⟨_, rfl, .refl _⟩, rfl, ⟨_, rfl, .refl _⟩, rfl, ⟨_, rfl, .refl _⟩, rfl, ⟨_, rfl, .refl _⟩, rfl, trivial⟩ ⟨⟨rfl, rfl, _, rfl, .refl _⟩, ⟨rfl, rfl, _, rfl, .refl _⟩, trivial⟩) ?_
 intro i hi
 refine wc_of ?_
 by_cases hlt : i < 3
 ·have d0 : decide ((i : Int) < 3) = true := dT (by omega)
  obtain ⟨t, n, ht, hn, hP⟩ : ∃ (t : List UInt8) (n : Nat), [px1, px2, px3][((i : Int)).toNat]? = some t ∧ Sub (.cons (i6 1) (.cons (i6 2) (.cons (i6 0) .nil))) [.idx ((i : Int)).toNat 1] (i6 n) ∧ FnIs Tryz.prog 15 [.d (strD t)] [] (parSA zScr n 5) [] := by
   rw [Int.toNat_natCast]
   match i, hlt with
   | 0, _ => exact ⟨px1, 1, rfl, rfl, hP1⟩
   | 1, _ => exact ⟨px2, 2, rfl, rfl, hP2⟩
   | 2, _ => exact ⟨px3, 0, rfl, rfl, hP3⟩
  have dn : (!decide ((n : Int) = (n : Int))) = false := by simp
  refine sR ?_;refine rC ?_;refine nQ ?_;refine wT ?_;refine kS ?_;refine wc_seq ?_;refine wc_block ?_;refine sR ?_;refine rC ?_;refine rQ (index_arr tab_ok rfl rfl rfl rfl rfl (by omega) ht) ?_
  refine rQ iL ?_;iterate 2 refine rC ?_
  refine nR ?_;refine rC ?_;refine rQ (call_r hP rfl rfl (arg_e arg_nil) (.inl rfl) (fun _ => rfl)) ?_;iterate 4 refine rC ?_
  refine rN ?_;refine rW ?_;iterate 2 refine rC ?_
  refine nR ?_;iterate 3 refine rC ?_
  refine rP ?_;refine rC ?_;refine rP ?_;refine rQ (build_arr_of tab_ok rfl rfl rfl rfl rfl rfl rfl) ?_;refine rP ?_;refine rC ?_;refine rP ?_;refine rQ (index_vec (k := .i64) (m := (i : Int)) (z := i6 n) tab_ok rfl rfl rfl rfl rfl (by omega) (by omega) hn rfl) ?_
  refine rP ?_;refine rC ?_;refine rQ iG ?_;refine nS ?_;refine wF ?_;refine wc_skip ?_;refine blk_n ?_;refine seq_n ?_;refine wc_region ?_;refine rQ iD ?_;refine rC ?_
  refine reg_nil ?_
  exact loop_n (i + 1) [(64, some _), (65, some _)] hlt (by omega) (.of rfl rfl rfl rfl rfl ⟨⟨_, rfl, .refl _⟩, rfl, ⟨_, rfl, .refl _⟩, rfl, ⟨_, rfl, .refl _⟩, rfl, ⟨_, rfl, .refl _⟩, rfl, ⟨_, rfl, .refl _⟩, rfl, ⟨_, rfl, .refl _⟩, rfl, ⟨_, rfl, .refl _⟩, rfl, ⟨_, rfl, .refl _⟩, rfl, ⟨_, rfl, .refl _⟩, rfl, trivial⟩ ⟨⟨rfl, rfl, _, rfl, .refl _⟩, ⟨rfl, rfl, _, rfl, .refl _⟩, trivial⟩)
 ·have he : i = 3 := by omega
  subst he
  refine sR ?_;refine rC ?_;refine nQ ?_;refine wG ?_;refine wc_exit ?_;refine seq_x ?_;refine loop_x ?_;refine blk_x ?_;refine seq_n ?_;refine sR ?_;iterate 3 refine rC ?_
  refine rP ?_;refine rC ?_;refine rP ?_;refine rC ?_;refine rQ iU ?_;refine rC ?_;refine rP ?_;refine rC ?_;refine rP ?_;refine rC ?_;refine rQ iU ?_;refine rC ?_
  refine rP ?_;refine rC ?_;refine rP ?_;refine rC ?_;refine rQ iU ?_;refine rC ?_;refine rP ?_;refine rC ?_;refine rP ?_;refine rC ?_;refine rQ iU ?_;refine rC ?_
  refine rP ?_;refine rQ iM ?_;refine rP ?_;refine rQ (call_r hC4 rfl rfl (arg_scr rfl rfl nl_le (exL_W 1 4) (exW_ok 1 4) arg_nil) (.inr (PlainRes.sc _)) (fun _ => rfl)) ?_
  refine rP ?_;refine rC ?_;refine rQ iU ?_;refine rC ?_;refine nS ?_;refine wc_ret ?_
  exact ⟨trivial, [], lf⟩
end Go.Proofs.YthiijfbcfoifnaaGreatDoor
namespace Go.Proofs.YthiijfbcfoifnaaGreatDoor
open Go.Eng Go.Plain
set_option maxHeartbeats 8000000
set_option maxRecDepth 20000
attribute [local irreducible] WC RegS RegD SeqQ BlkQ ScoQ RegK CutK Sat SatN FnIs LoopQ StepIs OpIs
theorem key_eq (a b : List UInt8) : EqOk Tryz.prog 2 24 (encK a) (encK b) (decide (byI a = byI b)) :=
 eq_vec tab_ok (P := Tryz.prog) Tryz.underlying24 rfl (fun _ => rfl) rfl (fun _ _ => eq_int (P := Tryz.prog) Tryz.underlying5)
theorem cfg_eq (c : SCfg) : EqOk Tryz.prog 3 26 (encCfg c) (encCfg c) true := by
 refine (eq_struct (P := Tryz.prog) Tryz.underlying26 (by kernel_rfl) rfl rfl (eqf_cons tab_ok rfl (by kernel_rfl) rfl rfl ((eq_int (P := Tryz.prog) Tryz.underlying3).up (by decide)) rfl (eqf_cons tab_ok rfl (by kernel_rfl) rfl rfl ((eq_int (P := Tryz.prog) Tryz.underlying3).up (by decide)) rfl (eqf_cons tab_ok rfl (by kernel_rfl) rfl rfl ((eq_int (P := Tryz.prog) Tryz.underlying3).up (by decide)) rfl (eqf_cons tab_ok rfl (by kernel_rfl) rfl rfl ((eq_int (P := Tryz.prog) Tryz.underlying3).up (by decide)) rfl (eqf_cons tab_ok rfl (by kernel_rfl) rfl rfl ((eq_int (P := Tryz.prog) Tryz.underlying22).up (by decide)) rfl (eqf_cons tab_ok rfl (by kernel_rfl) rfl rfl ((eq_int (P := Tryz.prog) Tryz.underlying22).up (by decide)) rfl (eqf_cons tab_ok rfl (by kernel_rfl) rfl rfl (key_eq _ _) rfl (eqf_cons tab_ok rfl (by kernel_rfl) rfl rfl ((eq_int (P := Tryz.prog) Tryz.underlying5).up (by decide)) rfl eqf_nil))))))))).cast ?_
 simp
theorem lsame_is (c : SCfg) (l : List (List POp)) (bs : List SAct) (hl : Bd l) (hb : bs.length ≤ 1000000000) : FnIs Tryz.prog 16 [.d (encScr c l bs), .d (encScr c l bs)] [] (.int .i64 1) [] := by
 have hal := alike_is bs bs hb hb
 rw [if_pos rfl] at hal
 have hl0 := hl.1
 have d0 : (!true) = false := rfl
 have q1 : (!decide ((l.length : Int) = (l.length : Int))) = false := by simp
 refine fnIs_of tab_ok Tryz.func16 rfl rfl rfl ?_;refine sR ?_;iterate 2 refine rN ?_
 refine rC ?_;refine nQ ?_;refine sR ?_;refine rC ?_;refine rQ iB ?_;refine rC ?_;refine rQ iB ?_;refine rQ (neq_data rfl rfl rfl rfl (by kernel_rfl) (by decide) (cfg_eq c)) ?_
 refine rC ?_;refine rP ?_;refine rC ?_;refine rP ?_;refine rQ iB ?_;refine rP ?_;refine rQ iE ?_;refine rP ?_;refine rC ?_;refine rP ?_;refine rQ iB ?_;refine rP ?_
 refine rQ iE ?_;refine rP ?_;refine rC ?_;refine rQ iG ?_;refine nS ?_;refine wF ?_;refine kS ?_;refine qR ?_;refine rC ?_;refine nS ?_;refine wc_block ?_
 refine wc_inv (fun i : Nat => ⟨[(5, .int .i64 i), (3, .ptr 65 []), (2, .ptr 64 [])], [(64, some (.box 30 (.d (encScr c l bs)))), (65, some (.box 30 (.d (encScr c l bs))))], 72, Tryz.f16.ntmps, 64⟩) (fun i => i ≤ l.length) (fun i => l.length - i) 0 [(64, some _), (65, some _)] (Nat.zero_le _)
  (.of rfl rfl rfl rfl rfl ⟨⟨_, rfl, .refl _⟩, rfl, ⟨_, rfl, .refl _⟩, rfl, ⟨_, rfl, .refl _⟩, rfl, trivial⟩ ⟨⟨rfl, rfl, _, rfl, .refl _⟩, ⟨rfl, rfl, _, rfl, .refl _⟩, trivial⟩) ?_
 intro i hi
 refine wc_of ?_
 by_cases hlt : i < l.length
 ·have d1 : decide ((i : Int) < (l.length : Int)) = true := dT (by omega)
  obtain ⟨p, hp⟩ : ∃ p, l[i]? = some p := ⟨_, List.getElem?_eq_getElem hlt⟩
  have hp2 : l[((i : Int)).toNat]? = some p := by rw [Int.toNat_natCast]; exact hp
  have hpl := hl.2 p (List.mem_of_getElem? hp)
  have q2 : (!decide ((p.length : Int) = (p.length : Int))) = false := by simp
  refine qR ?_;iterate 2 refine rC ?_
  refine rQ iB ?_;refine rQ iE ?_;refine rC ?_;refine nS ?_;refine wT ?_;refine kS ?_;refine wc_seq ?_;refine wc_block ?_;refine wc_seq ?_;refine wc_draw (by kernel_rfl) ?_
  refine dC [2] [] ?_;refine dQ [30] [64] iB ?_;refine dC [5] [] ?_;refine dQ [31, 32] [] (index_arr tab_ok rfl rfl rfl rfl rfl (by omega) hp2) ?_;refine dQ [33] [] iL ?_
  refine dC [3] [] ?_;refine dQ [35] [65] iB ?_;refine dC [5] [] ?_;refine dQ [36, 37] [] (index_arr tab_ok rfl rfl rfl rfl rfl (by omega) hp2) ?_;refine dQ [38] [] iL ?_
  refine dC [34] [] ?_;refine dC [39] [] ?_;refine dreg_end (by kernel_rfl) ?_;refine seq_n ?_;refine qR ?_;refine rC ?_;refine rQ iE ?_;refine rC ?_;refine rQ iE ?_
  refine rC ?_;refine nS ?_;refine wF ?_;refine kS ?_;refine sR ?_;refine rC ?_;refine nS ?_;refine wc_block ?_
  refine wc_inv (fun k : Nat => ⟨[(8, .int .i64 k), (7, .d (encP p)), (6, .d (encP p)), (5, .int .i64 i), (3, .ptr 65 []), (2, .ptr 64 [])], [(64, some (.box 30 (.d (encScr c l bs)))), (65, some (.box 30 (.d (encScr c l bs))))], 72, Tryz.f16.ntmps, 64⟩) (fun k => k ≤ p.length) (fun k => p.length - k) 0 [(64, some _), (65, some _)] (Nat.zero_le _)
   (.of rfl rfl rfl rfl rfl ⟨⟨_, rfl, .refl _⟩, rfl, ⟨_, rfl, .refl _⟩, rfl, ⟨_, rfl, .refl _⟩, rfl, ⟨_, rfl, .refl _⟩, rfl, ⟨_, rfl, .refl _⟩, rfl, ⟨_, rfl, .refl _⟩, rfl, trivial⟩ ⟨⟨rfl, rfl, _, rfl, .refl _⟩, ⟨rfl, rfl, _, rfl, .refl _⟩, trivial⟩) ?_
  intro k hk
  refine wc_of ?_
  by_cases hkl : k < p.length
  ·have d2 : decide ((k : Int) < (p.length : Int)) = true := dT (by omega)
   obtain ⟨o, ho⟩ : ∃ o, p[k]? = some o := ⟨_, List.getElem?_eq_getElem hkl⟩
   have ho2 : p[((k : Int)).toNat]? = some o := by rw [Int.toNat_natCast]; exact ho
   have e1 : (!decide (o.kind = o.kind)) = false := by simp
   have e2 : (!decide (o.index = o.index)) = false := by simp
   have e3 : (!decide (strOf (byI o.data) = strOf (byI o.data))) = false := by simp
   refine qR ?_;iterate 2 refine rC ?_
   refine rQ iE ?_;refine rC ?_;refine nS ?_;refine wT ?_;refine kS ?_;refine wc_seq ?_;refine wc_block ?_;refine wc_seq ?_;refine wc_draw (by kernel_rfl) ?_;refine dC [6] [] ?_
   refine dC [8] [] ?_;refine dQ [51, 52] [] (index_arr tab_ok rfl rfl rfl rfl rfl (by omega) ho2) ?_;refine dC [53] [] ?_;refine dQ [54] [] iL ?_;refine dC [7] [] ?_
   refine dC [8] [] ?_;refine dQ [56, 57] [] (index_arr tab_ok rfl rfl rfl rfl rfl (by omega) ho2) ?_;refine dC [58] [] ?_;refine dQ [59] [] iL ?_;refine dC [55, 60] [] ?_
   refine dC [61] [] ?_;refine dreg_onq [62, 6] [] rfl rfl (by assumption) rfl (step_C tab_ok (fun K hk => hk)) ?_;refine dreg_onq [62, 8] [] rfl rfl (by assumption) rfl (step_C tab_ok (fun K hk => hk)) ?_
   refine dreg_onq [62, 63, 64] [] rfl rfl (by assumption) rfl (index_arr tab_ok rfl rfl rfl rfl rfl (by omega) ho2) ?_;refine dreg_onq [62, 65] [] rfl rfl (by assumption) rfl (step_C tab_ok (fun K hk => hk)) ?_
   refine dreg_onq [62, 66] [] rfl rfl (by assumption) rfl (load_i tab_ok rfl rfl) ?_;refine dreg_onq [62, 7] [] rfl rfl (by assumption) rfl (step_C tab_ok (fun K hk => hk)) ?_
   refine dreg_onq [62, 8] [] rfl rfl (by assumption) rfl (step_C tab_ok (fun K hk => hk)) ?_;refine dreg_onq [62, 68, 69] [] rfl rfl (by assumption) rfl (index_arr tab_ok rfl rfl rfl rfl rfl (by omega) ho2) ?_
   refine dreg_onq [62, 70] [] rfl rfl (by assumption) rfl (step_C tab_ok (fun K hk => hk)) ?_;refine dreg_onq [62, 71] [] rfl rfl (by assumption) rfl (load_i tab_ok rfl rfl) ?_
   refine dreg_onq [62, 67, 72] [] rfl rfl (by assumption) rfl (step_C tab_ok (fun K hk => hk)) ?_;refine dQ [62, 73] [] iF ?_;refine dC [74] [] ?_;refine dreg_onq [75, 6] [] rfl rfl (by assumption) rfl (step_C tab_ok (fun K hk => hk)) ?_
   refine dreg_onq [75, 8] [] rfl rfl (by assumption) rfl (step_C tab_ok (fun K hk => hk)) ?_;refine dreg_onq [75, 76, 77] [] rfl rfl (by assumption) rfl (index_arr tab_ok rfl rfl rfl rfl rfl (by omega) ho2) ?_
   refine dreg_onq [75, 78] [] rfl rfl (by assumption) rfl (step_C tab_ok (fun K hk => hk)) ?_;refine dreg_onq [75, 79] [] rfl rfl (by assumption) rfl (load_i tab_ok rfl rfl) ?_
   refine dreg_onq [75, 80] [] rfl rfl (by assumption) rfl (conv_bytes tab_ok rfl rfl rfl rfl) ?_;refine dreg_onq [75, 7] [] rfl rfl (by assumption) rfl (step_C tab_ok (fun K hk => hk)) ?_
   refine dreg_onq [75, 8] [] rfl rfl (by assumption) rfl (step_C tab_ok (fun K hk => hk)) ?_;refine dreg_onq [75, 82, 83] [] rfl rfl (by assumption) rfl (index_arr tab_ok rfl rfl rfl rfl rfl (by omega) ho2) ?_
   refine dreg_onq [75, 84] [] rfl rfl (by assumption) rfl (step_C tab_ok (fun K hk => hk)) ?_;refine dreg_onq [75, 85] [] rfl rfl (by assumption) rfl (load_i tab_ok rfl rfl) ?_
   refine dreg_onq [75, 86] [] rfl rfl (by assumption) rfl (conv_bytes tab_ok rfl rfl rfl rfl) ?_;refine dreg_onq [75, 81, 87] [] rfl rfl (by assumption) rfl (neq_str tab_ok rfl rfl rfl) ?_
   refine dQ [75, 88] [] iF ?_;refine dreg_end (by kernel_rfl) ?_;refine seq_n ?_;refine wF ?_;refine wc_skip ?_;refine blk_n ?_;refine seq_n ?_;refine wc_region ?_
   refine rC ?_;refine rQ iD ?_;refine rC ?_;refine reg_nil ?_
   exact loop_n (k + 1) [(64, some _), (65, some _)] hkl (by omega) (.of rfl rfl rfl rfl rfl ⟨⟨_, rfl, .refl _⟩, rfl, ⟨_, rfl, .refl _⟩, rfl, ⟨_, rfl, .refl _⟩, rfl, ⟨_, rfl, .refl _⟩, rfl, ⟨_, rfl, .refl _⟩, rfl, ⟨_, rfl, .refl _⟩, rfl, trivial⟩ ⟨⟨rfl, rfl, _, rfl, .refl _⟩, ⟨rfl, rfl, _, rfl, .refl _⟩, trivial⟩)
  ·have d2 : decide ((k : Int) < (p.length : Int)) = false := dF (by omega)
   refine qR ?_;iterate 2 refine rC ?_
   refine rQ iE ?_;refine rC ?_;refine nS ?_;refine wF ?_;refine wc_exit ?_;refine seq_x ?_;refine loop_x ?_;refine blk_x ?_;refine blk_n ?_;refine seq_n ?_;refine wc_region ?_
   refine rC ?_;refine rQ iD ?_;refine rC ?_;refine reg_nil ?_
   exact loop_n (i + 1) [(64, some _), (65, some _)] hlt (by omega) (.of rfl rfl rfl rfl rfl ⟨⟨_, rfl, .refl _⟩, rfl, ⟨_, rfl, .refl _⟩, rfl, ⟨_, rfl, .refl _⟩, rfl, trivial⟩ ⟨⟨rfl, rfl, _, rfl, .refl _⟩, ⟨rfl, rfl, _, rfl, .refl _⟩, trivial⟩)
 ·have d1 : decide ((i : Int) < (l.length : Int)) = false := dF (by omega)
  refine qR ?_;iterate 2 refine rC ?_
  refine rQ iB ?_;refine rQ iE ?_;refine rC ?_;refine nS ?_;refine wF ?_;refine wc_exit ?_;refine seq_x ?_;refine loop_x ?_;refine blk_x ?_;refine seq_n ?_;refine sR ?_
  refine rC ?_;refine rQ iB ?_;refine rC ?_;refine rQ iB ?_;refine rQ (call_r hal rfl rfl (arg_e (arg_e arg_nil)) (.inl rfl) (fun _ => rfl)) ?_;refine rC ?_;refine nS ?_
  refine wc_ret ?_
  exact ⟨trivial, [], lf⟩
theorem parse_err {t : List UInt8} {x : SScr} {n : Nat} {e : Int} (h : parseS t = (x, n, e)) (he : e ≠ 0) : x = zScr := by
 unfold parseS at h
 split at h
 ·unfold parseLs at h
  split at h
  ·cases h; rfl
  ·split at h
   ·cases h; rfl
   ·split at h
    ·cases h; rfl
    ·split at h
     ·cases h; rfl
     ·split at h
      ·cases h; rfl
      ·cases h; exact absurd rfl he
 ·cases h; rfl
theorem law34_parse (t : List UInt8) : FnIs Tryz.prog 4 [.d (strD t)] [] (.bool true) [] := by
 refine fnIs_of tab_ok Tryz.func4 rfl rfl rfl ?_
 by_cases h1 : 1500 < t.length
 ·have d1 : decide (1500 < (t.length : Int)) = true := dT (by omega)
  refine sR ?_;refine rC ?_;refine nQ ?_;refine sR ?_;refine rC ?_;refine rQ (len_s tab_ok rfl rfl) ?_;refine rC ?_;refine nS ?_;refine wT ?_;refine sR ?_;refine rQ (call_r lives_is rfl rfl arg_nil (.inl rfl) (fun _ => rfl)) ?_
  refine rC ?_;refine nS ?_;refine wc_ret ?_;refine seq_r ?_
  exact ⟨trivial, [], lf⟩
 have d1 : decide (1500 < (t.length : Int)) = false := dF (by omega)
 have hlp := lparse_is t (by omega)
 have hsp := sparse_is t
 rw [show parseX t = parseS t from if_neg (by omega)] at hsp
 obtain ⟨⟨⟨c, l, bs⟩, n, e⟩, hpe⟩ : ∃ x, parseS t = x := ⟨_, rfl⟩
 rw [hpe] at hlp hsp
 simp only at hlp hsp
 have q1 : (!decide (e = e)) = false := by simp
 have q2 : (!decide ((n : Int) = (n : Int))) = false := by simp
 by_cases he : e = 0
 ·subst he
  obtain ⟨h0, hc, hok, hw, htt⟩ := parse_inv hpe
  have hBd := bd_chk (schk_ok h0).2.1
  have hb4 := (schk_ok h0).2.2.2.1
  have hsm := lsame_is c l bs hBd (by omega)
  have htx := stext_is c l bs hc.ok hBd hok (by omega) (fun a ha => (hw a ha).ok)
  rw [show textP2 c l bs = (t, 0) by rw [textP2, if_neg (fun x => x h0), if_neg (by rw [← htt]; omega), ← htt]] at htx
  have q3 : decide (t = t) = true := dT rfl
  refine sR ?_;refine rC ?_;refine nQ ?_;refine sR ?_;refine rC ?_;refine rQ (len_s tab_ok rfl rfl) ?_;refine rC ?_;refine nS ?_;refine wF ?_;refine kS ?_;refine sR ?_
  refine rC ?_;refine rQ (call_r hlp rfl rfl (arg_e arg_nil) (.inl rfl) (fun _ => rfl)) ?_;iterate 4 refine rC ?_
  refine rN ?_;refine rW ?_;iterate 2 refine rC ?_
  refine nR ?_;refine rC ?_;refine rQ (call_r hsp rfl rfl (arg_e arg_nil) (.inl rfl) (fun _ => rfl)) ?_;iterate 4 refine rC ?_
  refine rN ?_;refine rW ?_;iterate 2 refine rC ?_
  refine nQ ?_;refine sR ?_;iterate 4 refine rC ?_
  refine rP ?_;refine rC ?_;refine rP ?_;refine rC ?_;refine rP ?_;refine rC ?_;refine rQ iG ?_;refine rC ?_;refine rO ?_;refine rQ iM ?_;refine rO ?_;refine rQ iM ?_
  refine rO ?_;refine rQ (call_r hsm rfl rfl (arg_d rfl trivial (xs_le c l bs) (arg_e arg_nil)) (.inl rfl) (fun _ => rfl)) ?_;refine rO ?_;refine rC ?_;refine rQ iF ?_
  refine nS ?_;refine wG ?_;refine kS ?_;refine qR ?_;iterate 2 refine rC ?_
  refine nS ?_;refine wG ?_;refine kS ?_;refine sR ?_;refine rQ iM ?_;refine rQ (call_r htx rfl rfl (arg_d rfl trivial (xs_le c l bs) arg_nil) (.inl rfl) (fun _ => rfl)) ?_
  iterate 5 refine rC ?_
  refine nR ?_;iterate 3 refine rC ?_
  refine rP ?_;refine rC ?_;refine rP ?_;refine rC ?_;refine rP ?_;refine rQ (eql_s (a := t) (b := t) tab_ok rfl rfl rfl) ?_;refine rQ iU ?_;refine rC ?_;refine rO ?_
  refine rQ (call_r lives_is rfl rfl arg_nil (.inl rfl) (fun _ => rfl)) ?_;refine rQ iT ?_;refine rC ?_;refine nS ?_;refine wc_ret ?_
  exact ⟨trivial, [], lf⟩
 ·have hz := parse_err hpe he
  have hz1 : l = [] := congrArg (fun x : SScr => x.2.1) hz
  have hz2 : bs = [] := congrArg (fun x : SScr => x.2.2) hz
  have hsm := lsame_is c l bs (by rw [hz1]; exact ⟨by decide, fun p hp => by cases hp⟩) (by rw [hz2]; decide)
  have q3 : (!decide (e = 0)) = true := by rw [dF he]; rfl
  refine sR ?_;refine rC ?_;refine nQ ?_;refine sR ?_;refine rC ?_;refine rQ (len_s tab_ok rfl rfl) ?_;refine rC ?_;refine nS ?_;refine wF ?_;refine kS ?_;refine sR ?_
  refine rC ?_;refine rQ (call_r hlp rfl rfl (arg_e arg_nil) (.inl rfl) (fun _ => rfl)) ?_;iterate 4 refine rC ?_
  refine rN ?_;refine rW ?_;iterate 2 refine rC ?_
  refine nR ?_;refine rC ?_;refine rQ (call_r hsp rfl rfl (arg_e arg_nil) (.inl rfl) (fun _ => rfl)) ?_;iterate 4 refine rC ?_
  refine rN ?_;refine rW ?_;iterate 2 refine rC ?_
  refine nQ ?_;refine sR ?_;iterate 4 refine rC ?_
  refine rO ?_;refine rC ?_;refine rO ?_;refine rC ?_;refine rO ?_;refine rC ?_;refine rQ iF ?_;refine rC ?_;refine rO ?_;refine rQ iM ?_;refine rO ?_;refine rQ iM ?_
  refine rO ?_;refine rQ (call_r hsm rfl rfl (arg_d rfl trivial (xs_le c l bs) (arg_e arg_nil)) (.inl rfl) (fun _ => rfl)) ?_;refine rO ?_;refine rC ?_;refine rQ iF ?_
  refine nS ?_;refine wG ?_;refine kS ?_;refine qR ?_;iterate 2 refine rC ?_
  refine nS ?_;refine wT ?_;refine sR ?_;refine rQ (call_r lives_is rfl rfl arg_nil (.inl rfl) (fun _ => rfl)) ?_;refine rC ?_;refine nS ?_;refine wc_ret ?_;refine seq_r ?_
  exact ⟨trivial, [], lf⟩
end Go.Proofs.YthiijfbcfoifnaaGreatDoor
namespace Go.Proofs.YthiijfbcfoifnaaGreatDoor
open Go.Eng Go.Plain
def toB (l : List Int) : List UInt8 := l.map fun z => z.toNat.toUInt8
abbrev encS3 (s : SScr) : D := encScr s.1 s.2.1 s.2.2
abbrev encIs (l : List Int) : D := .arr 1 i6 l
end Go.Proofs.YthiijfbcfoifnaaGreatDoor
