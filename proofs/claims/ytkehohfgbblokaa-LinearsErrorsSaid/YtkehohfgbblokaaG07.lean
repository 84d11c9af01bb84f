/- Texts of the proof: Y29, YO. -/
import Derived.Test.YtkehohfgbblokaaG06
import Derived.Test.YtkehohfgbblokaaG04
import Derived.Test.YtkehohfgbblokaaG02

set_option linter.unusedVariables false
set_option linter.unusedSimpArgs false
set_option linter.unusedSectionVars false

namespace Go.Proofs.Ytkehohfgbblokaa
open Go.Eng Go.Plain
set_option maxHeartbeats 16000000
set_option maxRecDepth 20000
attribute [local irreducible] WC RegS RegD SeqQ BlkQ ScoQ RegK CutK Sat SatN FnIs LoopQ StepIs OpIs
theorem findH_err {h : List HEv} {b fuel : Int} (hE : opE h b ≠ 0 ∨ fuel < 0 ∨ 1048576 < fuel) : (findH h b fuel).1 = ([], false) ∧ (statesH h b fuel).1 = 0 ∧ (findH h b fuel).2 = (if opE h b = 0 then 1 else opE h b) ∧ (statesH h b fuel).2 = (if opE h b = 0 then 1 else opE h b) := by
 unfold findH statesH
 by_cases h0 : opE h b = 0
 ·have hf : fuel < 0 ∨ 1048576 < fuel := by rcases hE with h | h; exact absurd h0 h; exact h
  rw [if_pos h0, if_pos hf, if_pos h0, if_pos h0, if_pos hf]
  exact ⟨rfl, rfl, rfl, rfl⟩
 ·rw [if_neg h0, if_neg h0, if_neg h0]
  exact ⟨rfl, rfl, rfl, rfl⟩
theorem run_err (h : List HEv) (b fuel : Int) (hh : h.length ≤ 8192) (hf : opE h b ≠ 0 ∨ fuel < 0 ∨ 1048576 < fuel) : RunOk h b fuel := by
 have hal : (rdH h).all.length ≤ 8192 := Nat.le_trans (rdH_all_len h) hh
 have hll : (lH h b).length ≤ 8192 := Nat.le_trans (lH_len h b) hh
 obtain ⟨ks, kv, F⟩ := prep_facts (lH h b) b (erasN h)
 have P := F.ok hll
 refine ⟨hh, hal, fun hE h0 h1 => ?_, fun _ => ⟨ks, kv, F⟩, fun _ => hll, fun r hE h0 h1 hr => ?_⟩
 ·rcases hf with hf | hf
  ·exact absurd hE hf
  ·omega
 ·rcases hf with hf | hf
  ·exact absurd hE hf
  ·omega
theorem findH_ok {h : List HEv} {b fuel : Int} (hE : opE h b = 0) (h0 : 0 ≤ fuel) (h1 : fuel ≤ 1048576) : (findH h b fuel).2 = (statesH h b fuel).2 ∧ ((statesH h b fuel).2 = 0 ∨ (statesH h b fuel).2 = 4) := by
 unfold findH statesH
 rw [if_pos hE, if_pos hE, if_neg (by omega), if_neg (by omega)]
 cases srchH h b fuel with
 | none => exact ⟨rfl, .inr rfl⟩
 | some r => exact ⟨rfl, .inl rfl⟩
theorem law25_errors (h : List HEv) (b fuel : Int) : FnIs Try.prog 10 [.d (encH h), .int .i64 b, .int .i64 fuel] [] (.bool true) [] := by
 refine fnIs_of tab_ok Try.func10 rfl rfl rfl ?_
 by_cases h40 : 40 < h.length
 ·have d0 : decide ((40 : Int) < (h.length : Int)) = true := dT (by omega)
  refine sR ?_;refine rC ?_;refine nQ ?_;refine sR ?_;refine rC ?_;refine rQ iE ?_;refine rC ?_;refine nS ?_;refine wT ?_;refine sR ?_;refine rQ (call_r lives_is rfl rfl arg_nil (.inl rfl) (fun _ => rfl)) ?_
  refine rC ?_;refine nS ?_;refine wc_ret ?_;refine seq_r ?_
  exact ⟨trivial, [], lf⟩
 have d0 : decide ((40 : Int) < (h.length : Int)) = false := dF (by omega)
 refine sR ?_;refine rC ?_;refine nQ ?_;refine sR ?_;refine rC ?_;refine rQ iE ?_;refine rC ?_;refine nS ?_;refine wF ?_;refine kS ?_;refine qR ?_;refine rC ?_;refine nS ?_
 refine wc_block ?_
 refine wc_inv (fun i : Nat => ⟨[(7, .int .i64 i), (0, .d (encH h)), (1, .int .i64 b), (2, .int .i64 fuel)], [], 72, Try.f10.ntmps, 64⟩) (fun i => i ≤ h.length) (fun i => h.length - i) 0 [] (Nat.zero_le _)
  (lg zi trivial) ?_
 intro i hi
 refine wc_of ?_
 by_cases hlt : i < h.length
 ·have d1 : decide ((i : Int) < (h.length : Int)) = true := dT (by omega)
  obtain ⟨x, hx⟩ : ∃ x, h[i]? = some x := ⟨_, List.getElem?_eq_getElem hlt⟩
  have hx2 : h[((i : Int)).toNat]? = some x := by rw [Int.toNat_natCast]; exact hx
  cases d2 : decide ((70 : Int) < ((byI x.op.data).length : Int)) with
  | true =>
   refine qR ?_;iterate 2 refine rC ?_
   refine rQ iE ?_;refine rC ?_;refine nS ?_;refine wT ?_;refine kS ?_;refine wc_seq ?_;refine wc_block ?_;refine sR ?_;iterate 2 refine rC ?_
   refine rQ (index_arr tab_ok rfl rfl rfl rfl rfl (by omega) hx2) ?_;iterate 2 refine rC ?_
   refine rQ iL ?_;refine rQ iE ?_;refine rC ?_;refine nS ?_;refine wT ?_;refine sR ?_;refine rQ (call_r lives_is rfl rfl arg_nil (.inl rfl) (fun _ => rfl)) ?_;refine rC ?_
   refine nS ?_;refine wc_ret ?_;refine blk_r ?_;refine seq_r ?_;refine loop_r ?_;refine blk_r ?_;refine seq_r ?_
   exact ⟨trivial, [], lf⟩
  | false =>
   refine qR ?_;iterate 2 refine rC ?_
   refine rQ iE ?_;refine rC ?_;refine nS ?_;refine wT ?_;refine kS ?_;refine wc_seq ?_;refine wc_block ?_;refine sR ?_;iterate 2 refine rC ?_
   refine rQ (index_arr tab_ok rfl rfl rfl rfl rfl (by omega) hx2) ?_;iterate 2 refine rC ?_
   refine rQ iL ?_;refine rQ iE ?_;refine rC ?_;refine nS ?_;refine wF ?_;refine wc_skip ?_;refine blk_n ?_;refine seq_n ?_;refine wc_region ?_;refine rC ?_;refine rQ iD ?_
   refine rC ?_;refine reg_nil ?_
   exact loop_n (i + 1) [] hlt (by omega) (lg zi trivial)
 have d1 : decide ((i : Int) < (h.length : Int)) = false := dF (by omega)
 have hal : (rdH h).all.length ≤ 1048576 := by have := rdH_all_len h; omega
 have hck := rcheck24_is h (by omega)
 rw [← chk_same] at hck
 have hsk := sticky_is h (by omega) hal
 have hac := accept_is h b [-1] (by omega) hal (by decide)
 by_cases hc : (chkH h).2 = 0
 ·rw [if_pos hc] at hsk
  rw [hc] at hck hsk
  have hoe : opE h b = if b < 1 ∨ 4096 < b then 1 else 0 := by rw [opE, if_pos hc]
  generalize stV (opsH h) = S at hsk
  by_cases hb : b < 1 ∨ 4096 < b
  ·have hE : opE h b = 1 := by rw [hoe, if_pos hb]
   obtain ⟨f1, f2, f3, f4⟩ := findH_err (h := h) (b := b) (fuel := fuel) (.inl (by rw [hE]; decide))
   rw [if_neg (by rw [hE]; decide), hE] at f3 f4
   rw [if_neg (by rw [hE]; decide), hE] at hac
   have R := run_err h b fuel (by omega) (.inl (by rw [hE]; decide))
   have hst := states_is R
   have hfi := find_is R
   have hle := legal_is R
   rw [f2, f4] at hst
   rw [f1, f3] at hfi hle
   rcases hb with hb | hb
   ·have e1 : decide (b < 1) = true := dT hb
    refine qR ?_;iterate 2 refine rC ?_
    refine rQ iE ?_;refine rC ?_;refine nS ?_;refine wF ?_;refine wc_exit ?_;refine seq_x ?_;refine loop_x ?_;refine blk_x ?_;refine seq_n ?_;refine sR ?_;refine rC ?_
    refine rQ (call_r hck rfl rfl (arg_e arg_nil) (.inl rfl) (fun _ => rfl)) ?_;iterate 5 refine rC ?_
    refine nR ?_;refine rC ?_;refine rQ (call_r hsk rfl rfl (arg_e arg_nil) (.inl rfl) (fun _ => rfl)) ?_;iterate 5 refine rC ?_
    refine nQ ?_;refine sR ?_;iterate 4 refine rC ?_
    refine rP ?_;refine rC ?_;refine rP ?_;refine rC ?_;refine rP ?_;refine rC ?_;refine rT ?_;refine rP ?_;iterate 2 refine rQ iG ?_
    refine nS ?_;refine wG ?_;refine kS ?_;refine qR ?_;iterate 3 refine rC ?_
    refine rP ?_;refine rC ?_;refine rP ?_;refine rC ?_;refine rP ?_;refine rC ?_;iterate 2 refine rS ?_
    refine rP ?_;refine rQ iT ?_;refine rQ iU ?_;refine nS ?_;refine wV ?_;refine wc_region ?_;refine rC ?_;refine nR ?_;iterate 2 refine rC ?_
    refine rQ (StepIs.frozen (build_slice (s := 1) tab_ok rfl rfl rfl rfl rfl rfl rfl rfl) (Frz.litsN (enc := i6) [-1] rfl (fun _ _ => rfl))) ?_;refine rQ (call_r hac rfl rfl (arg_e (arg_e (arg_e arg_nil))) (.inl rfl) (fun _ => rfl)) ?_
    refine rC ?_;refine nQ ?_;refine sR ?_;iterate 3 refine rC ?_
    refine rP ?_;refine rC ?_;refine rP ?_;refine rC ?_;refine rP ?_;refine rC ?_;refine rQ iU ?_;refine rC ?_;refine rP ?_;refine rC ?_;refine rP ?_;refine rC ?_;refine rP ?_
    refine rC ?_;iterate 2 refine rT ?_
    refine rP ?_;iterate 2 refine rQ iG ?_
    refine nS ?_;refine wG ?_;refine kS ?_;refine qR ?_;iterate 3 refine rC ?_
    iterate 3 refine rT ?_
    iterate 2 refine rU ?_
    refine rT ?_;refine rQ iG ?_;refine nS ?_;refine wG ?_;refine kS ?_;refine qR ?_;iterate 2 refine rC ?_
    refine nS ?_;refine wG ?_;refine kS ?_;refine sR ?_;iterate 3 refine rC ?_
    refine rQ (call_r hst rfl rfl (arg_e (arg_e (arg_e arg_nil))) (.inl rfl) (fun _ => rfl)) ?_;iterate 5 refine rC ?_
    refine nR ?_;iterate 3 refine rC ?_
    refine rQ (call_r hle rfl rfl (arg_e (arg_e (arg_e arg_nil))) (.inl rfl) (fun _ => rfl)) ?_;iterate 5 refine rC ?_
    refine nR ?_;iterate 3 refine rC ?_
    refine rQ (call_r hfi rfl rfl (arg_e (arg_e (arg_e arg_nil))) (.inl rfl) (fun _ => rfl)) ?_;iterate 7 refine rC ?_
    refine nQ ?_;refine sR ?_;iterate 2 refine rC ?_
    refine nS ?_;refine wV ?_;refine sR ?_;iterate 4 refine rC ?_
    refine rP ?_;refine rC ?_;refine rP ?_;refine rC ?_;refine rP ?_;refine rC ?_;refine rQ iU ?_;refine rC ?_;refine rP ?_;refine rC ?_;refine rP ?_;refine rC ?_;refine rP ?_
    refine rC ?_;refine rQ iU ?_;refine rC ?_;refine rP ?_;refine rC ?_;refine rP ?_;refine rC ?_;refine rQ iU ?_;refine rC ?_;refine rP ?_;refine rC ?_;refine rP ?_
    refine rC ?_;refine rQ iU ?_;refine rC ?_;refine rP ?_;refine rC ?_;refine rP ?_;refine rC ?_;refine rQ iU ?_;refine rC ?_;refine rP ?_;refine rC ?_;refine rP ?_
    refine rQ (len_arx tab_ok rfl rfl) ?_;refine rP ?_;refine rC ?_;refine rQ iU ?_;refine rC ?_;refine rP ?_;refine rQ (call_r lives_is rfl rfl arg_nil (.inl rfl) (fun _ => rfl)) ?_
    refine rQ iU ?_;refine rC ?_;refine nS ?_;refine wc_ret ?_;refine seq_r ?_
    exact ⟨trivial, [], lf⟩
   ·have e1 : decide (b < 1) = false := dF (by omega)
    have e2 : decide (4096 < b) = true := dT hb
    refine qR ?_;iterate 2 refine rC ?_
    refine rQ iE ?_;refine rC ?_;refine nS ?_;refine wF ?_;refine wc_exit ?_;refine seq_x ?_;refine loop_x ?_;refine blk_x ?_;refine seq_n ?_;refine sR ?_;refine rC ?_
    refine rQ (call_r hck rfl rfl (arg_e arg_nil) (.inl rfl) (fun _ => rfl)) ?_;iterate 5 refine rC ?_
    refine nR ?_;refine rC ?_;refine rQ (call_r hsk rfl rfl (arg_e arg_nil) (.inl rfl) (fun _ => rfl)) ?_;iterate 5 refine rC ?_
    refine nQ ?_;refine sR ?_;iterate 4 refine rC ?_
    refine rP ?_;refine rC ?_;refine rP ?_;refine rC ?_;refine rP ?_;refine rC ?_;refine rT ?_;refine rP ?_;iterate 2 refine rQ iG ?_
    refine nS ?_;refine wG ?_;refine kS ?_;refine qR ?_;iterate 3 refine rC ?_
    refine rP ?_;refine rC ?_;refine rP ?_;refine rC ?_;refine rP ?_;refine rC ?_;refine rO ?_;refine rC ?_;refine rO ?_;refine rC ?_;refine rP ?_;refine rQ iF ?_;refine rQ iU ?_
    refine nS ?_;refine wT ?_;refine wc_region ?_;refine rC ?_;refine nR ?_;iterate 2 refine rC ?_
    refine rQ (StepIs.frozen (build_slice (s := 1) tab_ok rfl rfl rfl rfl rfl rfl rfl rfl) (Frz.litsN (enc := i6) [-1] rfl (fun _ _ => rfl))) ?_;refine rQ (call_r hac rfl rfl (arg_e (arg_e (arg_e arg_nil))) (.inl rfl) (fun _ => rfl)) ?_
    refine rC ?_;refine nQ ?_;refine sR ?_;iterate 3 refine rC ?_
    refine rP ?_;refine rC ?_;refine rP ?_;refine rC ?_;refine rP ?_;refine rC ?_;refine rQ iU ?_;refine rC ?_;refine rP ?_;refine rC ?_;refine rP ?_;refine rC ?_;refine rP ?_
    refine rC ?_;iterate 2 refine rT ?_
    refine rP ?_;iterate 2 refine rQ iG ?_
    refine nS ?_;refine wG ?_;refine kS ?_;refine qR ?_;iterate 3 refine rC ?_
    iterate 3 refine rT ?_
    iterate 2 refine rU ?_
    refine rT ?_;refine rQ iG ?_;refine nS ?_;refine wG ?_;refine kS ?_;refine qR ?_;iterate 2 refine rC ?_
    refine nS ?_;refine wG ?_;refine kS ?_;refine sR ?_;iterate 3 refine rC ?_
    refine rQ (call_r hst rfl rfl (arg_e (arg_e (arg_e arg_nil))) (.inl rfl) (fun _ => rfl)) ?_;iterate 5 refine rC ?_
    refine nR ?_;iterate 3 refine rC ?_
    refine rQ (call_r hle rfl rfl (arg_e (arg_e (arg_e arg_nil))) (.inl rfl) (fun _ => rfl)) ?_;iterate 5 refine rC ?_
    refine nR ?_;iterate 3 refine rC ?_
    refine rQ (call_r hfi rfl rfl (arg_e (arg_e (arg_e arg_nil))) (.inl rfl) (fun _ => rfl)) ?_;iterate 7 refine rC ?_
    refine nQ ?_;refine sR ?_;iterate 2 refine rC ?_
    refine nS ?_;refine wV ?_;refine sR ?_;iterate 4 refine rC ?_
    refine rP ?_;refine rC ?_;refine rP ?_;refine rC ?_;refine rP ?_;refine rC ?_;refine rQ iU ?_;refine rC ?_;refine rP ?_;refine rC ?_;refine rP ?_;refine rC ?_;refine rP ?_
    refine rC ?_;refine rQ iU ?_;refine rC ?_;refine rP ?_;refine rC ?_;refine rP ?_;refine rC ?_;refine rQ iU ?_;refine rC ?_;refine rP ?_;refine rC ?_;refine rP ?_
    refine rC ?_;refine rQ iU ?_;refine rC ?_;refine rP ?_;refine rC ?_;refine rP ?_;refine rC ?_;refine rQ iU ?_;refine rC ?_;refine rP ?_;refine rC ?_;refine rP ?_
    refine rQ (len_arx tab_ok rfl rfl) ?_;refine rP ?_;refine rC ?_;refine rQ iU ?_;refine rC ?_;refine rP ?_;refine rQ (call_r lives_is rfl rfl arg_nil (.inl rfl) (fun _ => rfl)) ?_
    refine rQ iU ?_;refine rC ?_;refine nS ?_;refine wc_ret ?_;refine seq_r ?_
    exact ⟨trivial, [], lf⟩
  ·have hE : opE h b = 0 := by rw [hoe, if_neg hb]
   have e1 : decide (b < 1) = false := dF (by omega)
   have e2 : decide (4096 < b) = false := dF (by omega)
   have hacv : _root_.Go.Proofs.Ytkehohfgbblokaa.accS b (opsH h) [-1] = 1 := by unfold _root_.Go.Proofs.Ytkehohfgbblokaa.accS accL; simp
   rw [if_pos hE, hacv] at hac
   by_cases hf : fuel < 0 ∨ 1048576 < fuel
   ·obtain ⟨f1, f2, f3, f4⟩ := findH_err (h := h) (b := b) (fuel := fuel) (.inr hf)
    rw [if_pos hE] at f3 f4
    have R := run_err h b fuel (by omega) (.inr hf)
    have hst := states_is R
    have hfi := find_is R
    have hle := legal_is R
    rw [f2, f4] at hst
    rw [f1, f3] at hfi hle
    rcases hf with hf | hf
    ·have g1 : decide (fuel < 0) = true := dT hf
     refine qR ?_;iterate 2 refine rC ?_
     refine rQ iE ?_;refine rC ?_;refine nS ?_;refine wF ?_;refine wc_exit ?_;refine seq_x ?_;refine loop_x ?_;refine blk_x ?_;refine seq_n ?_;refine sR ?_;refine rC ?_
     refine rQ (call_r hck rfl rfl (arg_e arg_nil) (.inl rfl) (fun _ => rfl)) ?_;iterate 5 refine rC ?_
     refine nR ?_;refine rC ?_;refine rQ (call_r hsk rfl rfl (arg_e arg_nil) (.inl rfl) (fun _ => rfl)) ?_;iterate 5 refine rC ?_
     refine nQ ?_;refine sR ?_;iterate 4 refine rC ?_
     refine rP ?_;refine rC ?_;refine rP ?_;refine rC ?_;refine rP ?_;refine rC ?_;refine rT ?_;refine rP ?_;iterate 2 refine rQ iG ?_
     refine nS ?_;refine wG ?_;refine kS ?_;refine qR ?_;iterate 3 refine rC ?_
     refine rP ?_;refine rC ?_;refine rP ?_;refine rC ?_;refine rP ?_;refine rC ?_;refine rO ?_;refine rC ?_;refine rO ?_;refine rC ?_;refine rP ?_;refine rQ iF ?_;refine rQ iU ?_
     refine nS ?_;refine wF ?_;refine kS ?_;refine sR ?_;iterate 2 refine rC ?_
     refine rQ (StepIs.frozen (build_slice (s := 1) tab_ok rfl rfl rfl rfl rfl rfl rfl rfl) (Frz.litsN (enc := i6) [-1] rfl (fun _ _ => rfl))) ?_;refine rQ (call_r hac rfl rfl (arg_e (arg_e (arg_e arg_nil))) (.inl rfl) (fun _ => rfl)) ?_
     refine rC ?_;refine nQ ?_;refine sR ?_;iterate 3 refine rC ?_
     iterate 3 refine rT ?_
     refine rQ iG ?_;refine rC ?_;refine rP ?_;refine rC ?_;refine rP ?_;refine rC ?_;refine rP ?_;refine rC ?_;refine rP ?_;refine rC ?_;refine rP ?_;refine rC ?_;refine rP ?_
     refine rQ iU ?_;refine rQ iG ?_;refine nS ?_;refine wG ?_;refine kS ?_;refine qR ?_;iterate 3 refine rC ?_
     refine rP ?_;refine rC ?_;refine rP ?_;refine rC ?_;refine rP ?_;refine rC ?_;iterate 2 refine rS ?_
     refine rP ?_;refine rQ iT ?_;refine rQ iU ?_;refine nS ?_;refine wV ?_;refine wc_region ?_;refine rC ?_;refine nQ ?_;refine sR ?_;iterate 2 refine rC ?_
     refine nS ?_;refine wG ?_;refine kS ?_;refine sR ?_;iterate 3 refine rC ?_
     refine rQ (call_r hst rfl rfl (arg_e (arg_e (arg_e arg_nil))) (.inl rfl) (fun _ => rfl)) ?_;iterate 5 refine rC ?_
     refine nR ?_;iterate 3 refine rC ?_
     refine rQ (call_r hle rfl rfl (arg_e (arg_e (arg_e arg_nil))) (.inl rfl) (fun _ => rfl)) ?_;iterate 5 refine rC ?_
     refine nR ?_;iterate 3 refine rC ?_
     refine rQ (call_r hfi rfl rfl (arg_e (arg_e (arg_e arg_nil))) (.inl rfl) (fun _ => rfl)) ?_;iterate 7 refine rC ?_
     refine nQ ?_;refine sR ?_;iterate 2 refine rC ?_
     refine nS ?_;refine wV ?_;refine sR ?_;iterate 4 refine rC ?_
     refine rP ?_;refine rC ?_;refine rP ?_;refine rC ?_;refine rP ?_;refine rC ?_;refine rQ iU ?_;refine rC ?_;refine rP ?_;refine rC ?_;refine rP ?_;refine rC ?_;refine rP ?_
     refine rC ?_;refine rQ iU ?_;refine rC ?_;refine rP ?_;refine rC ?_;refine rP ?_;refine rC ?_;refine rQ iU ?_;refine rC ?_;refine rP ?_;refine rC ?_;refine rP ?_
     refine rC ?_;refine rQ iU ?_;refine rC ?_;refine rP ?_;refine rC ?_;refine rP ?_;refine rC ?_;refine rQ iU ?_;refine rC ?_;refine rP ?_;refine rC ?_;refine rP ?_
     refine rQ (len_arx tab_ok rfl rfl) ?_;refine rP ?_;refine rC ?_;refine rQ iU ?_;refine rC ?_;refine rP ?_;refine rQ (call_r lives_is rfl rfl arg_nil (.inl rfl) (fun _ => rfl)) ?_
     refine rQ iU ?_;refine rC ?_;refine nS ?_;refine wc_ret ?_;refine seq_r ?_
     exact ⟨trivial, [], lf⟩
    ·have g1 : decide (fuel < 0) = false := dF (by omega)
     have g2 : decide (1048576 < fuel) = true := dT hf
     refine qR ?_;iterate 2 refine rC ?_
     refine rQ iE ?_;refine rC ?_;refine nS ?_;refine wF ?_;refine wc_exit ?_;refine seq_x ?_;refine loop_x ?_;refine blk_x ?_;refine seq_n ?_;refine sR ?_;refine rC ?_
     refine rQ (call_r hck rfl rfl (arg_e arg_nil) (.inl rfl) (fun _ => rfl)) ?_;iterate 5 refine rC ?_
     refine nR ?_;refine rC ?_;refine rQ (call_r hsk rfl rfl (arg_e arg_nil) (.inl rfl) (fun _ => rfl)) ?_;iterate 5 refine rC ?_
     refine nQ ?_;refine sR ?_;iterate 4 refine rC ?_
     refine rP ?_;refine rC ?_;refine rP ?_;refine rC ?_;refine rP ?_;refine rC ?_;refine rT ?_;refine rP ?_;iterate 2 refine rQ iG ?_
     refine nS ?_;refine wG ?_;refine kS ?_;refine qR ?_;iterate 3 refine rC ?_
     refine rP ?_;refine rC ?_;refine rP ?_;refine rC ?_;refine rP ?_;refine rC ?_;refine rO ?_;refine rC ?_;refine rO ?_;refine rC ?_;refine rP ?_;refine rQ iF ?_;refine rQ iU ?_
     refine nS ?_;refine wF ?_;refine kS ?_;refine sR ?_;iterate 2 refine rC ?_
     refine rQ (StepIs.frozen (build_slice (s := 1) tab_ok rfl rfl rfl rfl rfl rfl rfl rfl) (Frz.litsN (enc := i6) [-1] rfl (fun _ _ => rfl))) ?_;refine rQ (call_r hac rfl rfl (arg_e (arg_e (arg_e arg_nil))) (.inl rfl) (fun _ => rfl)) ?_
     refine rC ?_;refine nQ ?_;refine sR ?_;iterate 3 refine rC ?_
     iterate 3 refine rT ?_
     refine rQ iG ?_;refine rC ?_;refine rP ?_;refine rC ?_;refine rP ?_;refine rC ?_;refine rP ?_;refine rC ?_;refine rP ?_;refine rC ?_;refine rP ?_;refine rC ?_;refine rP ?_
     refine rQ iU ?_;refine rQ iG ?_;refine nS ?_;refine wG ?_;refine kS ?_;refine qR ?_;iterate 3 refine rC ?_
     refine rP ?_;refine rC ?_;refine rP ?_;refine rC ?_;refine rP ?_;refine rC ?_;refine rO ?_;refine rC ?_;refine rO ?_;refine rC ?_;refine rP ?_;refine rQ iF ?_;refine rQ iU ?_
     refine nS ?_;refine wT ?_;refine wc_region ?_;refine rC ?_;refine nQ ?_;refine sR ?_;iterate 2 refine rC ?_
     refine nS ?_;refine wG ?_;refine kS ?_;refine sR ?_;iterate 3 refine rC ?_
     refine rQ (call_r hst rfl rfl (arg_e (arg_e (arg_e arg_nil))) (.inl rfl) (fun _ => rfl)) ?_;iterate 5 refine rC ?_
     refine nR ?_;iterate 3 refine rC ?_
     refine rQ (call_r hle rfl rfl (arg_e (arg_e (arg_e arg_nil))) (.inl rfl) (fun _ => rfl)) ?_;iterate 5 refine rC ?_
     refine nR ?_;iterate 3 refine rC ?_
     refine rQ (call_r hfi rfl rfl (arg_e (arg_e (arg_e arg_nil))) (.inl rfl) (fun _ => rfl)) ?_;iterate 7 refine rC ?_
     refine nQ ?_;refine sR ?_;iterate 2 refine rC ?_
     refine nS ?_;refine wV ?_;refine sR ?_;iterate 4 refine rC ?_
     refine rP ?_;refine rC ?_;refine rP ?_;refine rC ?_;refine rP ?_;refine rC ?_;refine rQ iU ?_;refine rC ?_;refine rP ?_;refine rC ?_;refine rP ?_;refine rC ?_;refine rP ?_
     refine rC ?_;refine rQ iU ?_;refine rC ?_;refine rP ?_;refine rC ?_;refine rP ?_;refine rC ?_;refine rQ iU ?_;refine rC ?_;refine rP ?_;refine rC ?_;refine rP ?_
     refine rC ?_;refine rQ iU ?_;refine rC ?_;refine rP ?_;refine rC ?_;refine rP ?_;refine rC ?_;refine rQ iU ?_;refine rC ?_;refine rP ?_;refine rC ?_;refine rP ?_
     refine rQ (len_arx tab_ok rfl rfl) ?_;refine rP ?_;refine rC ?_;refine rQ iU ?_;refine rC ?_;refine rP ?_;refine rQ (call_r lives_is rfl rfl arg_nil (.inl rfl) (fun _ => rfl)) ?_
     refine rQ iU ?_;refine rC ?_;refine nS ?_;refine wc_ret ?_;refine seq_r ?_
     exact ⟨trivial, [], lf⟩
   ·have g1 : decide (fuel < 0) = false := dF (by omega)
    have g2 : decide (1048576 < fuel) = false := dF (by omega)
    obtain ⟨F2, hF2⟩ : ∃ F2, F2 = min fuel 300 := ⟨_, rfl⟩
    have hmin : min fuel 300 = F2 := hF2.symm
    obtain ⟨f1, f2⟩ := findH_ok (h := h) (b := b) (fuel := F2) hE (by omega) (by omega)
    have R := run_small h b F2 (by omega) (.inl (by omega)) (fun _ => by have := Nat.mul_le_mul (show F2.toNat ≤ 300 by omega) (show h.length + 1 ≤ 41 by omega); omega)
    have hst := states_is R
    have hfi := find_is R
    have hle := legal_is R
    rw [f1] at hfi hle
    generalize (statesH h b F2).1 = N0 at hst
    generalize (findH h b F2).1 = FF at hfi hle
    generalize (statesH h b F2).2 = e0 at *
    rcases f2 with rfl | rfl
    ·refine qR ?_;iterate 2 refine rC ?_
     refine rQ iE ?_;refine rC ?_;refine nS ?_;refine wF ?_;refine wc_exit ?_;refine seq_x ?_;refine loop_x ?_;refine blk_x ?_;refine seq_n ?_;refine sR ?_;refine rC ?_
     refine rQ (call_r hck rfl rfl (arg_e arg_nil) (.inl rfl) (fun _ => rfl)) ?_;iterate 5 refine rC ?_
     refine nR ?_;refine rC ?_;refine rQ (call_r hsk rfl rfl (arg_e arg_nil) (.inl rfl) (fun _ => rfl)) ?_;iterate 5 refine rC ?_
     refine nQ ?_;refine sR ?_;iterate 4 refine rC ?_
     refine rP ?_;refine rC ?_;refine rP ?_;refine rC ?_;refine rP ?_;refine rC ?_;refine rT ?_;refine rP ?_;iterate 2 refine rQ iG ?_
     refine nS ?_;refine wG ?_;refine kS ?_;refine qR ?_;iterate 3 refine rC ?_
     refine rP ?_;refine rC ?_;refine rP ?_;refine rC ?_;refine rP ?_;refine rC ?_;refine rO ?_;refine rC ?_;refine rO ?_;refine rC ?_;refine rP ?_;refine rQ iF ?_;refine rQ iU ?_
     refine nS ?_;refine wF ?_;refine kS ?_;refine sR ?_;iterate 2 refine rC ?_
     refine rQ (StepIs.frozen (build_slice (s := 1) tab_ok rfl rfl rfl rfl rfl rfl rfl rfl) (Frz.litsN (enc := i6) [-1] rfl (fun _ _ => rfl))) ?_;refine rQ (call_r hac rfl rfl (arg_e (arg_e (arg_e arg_nil))) (.inl rfl) (fun _ => rfl)) ?_
     refine rC ?_;refine nQ ?_;refine sR ?_;iterate 3 refine rC ?_
     iterate 3 refine rT ?_
     refine rQ iG ?_;refine rC ?_;refine rP ?_;refine rC ?_;refine rP ?_;refine rC ?_;refine rP ?_;refine rC ?_;refine rP ?_;refine rC ?_;refine rP ?_;refine rC ?_;refine rP ?_
     refine rQ iU ?_;refine rQ iG ?_;refine nS ?_;refine wG ?_;refine kS ?_;refine qR ?_;iterate 3 refine rC ?_
     refine rP ?_;refine rC ?_;refine rP ?_;refine rC ?_;refine rP ?_;refine rC ?_;refine rO ?_;refine rC ?_;refine rO ?_;refine rC ?_;refine rP ?_;refine rQ iF ?_;refine rQ iU ?_
     refine nS ?_;refine wF ?_;refine kS ?_;refine qR ?_;iterate 2 refine rC ?_
     refine nS ?_;refine wV ?_;refine wc_region ?_;refine rC ?_;refine rQ (min_int rfl rfl hmin) ?_;refine rC ?_;refine nR ?_;iterate 3 refine rC ?_
     refine rQ (call_r hst rfl rfl (arg_e (arg_e (arg_e arg_nil))) (.inl rfl) (fun _ => rfl)) ?_;iterate 5 refine rC ?_
     refine nR ?_;iterate 3 refine rC ?_
     refine rQ (call_r hle rfl rfl (arg_e (arg_e (arg_e arg_nil))) (.inl rfl) (fun _ => rfl)) ?_;iterate 5 refine rC ?_
     refine nR ?_;iterate 3 refine rC ?_
     refine rQ (call_r hfi rfl rfl (arg_e (arg_e (arg_e arg_nil))) (.inl rfl) (fun _ => rfl)) ?_;iterate 7 refine rC ?_
     refine nQ ?_;refine sR ?_;iterate 2 refine rC ?_
     refine nS ?_;refine wG ?_;refine kS ?_;refine sR ?_;iterate 3 refine rC ?_
     iterate 2 refine rT ?_
     refine rQ iU ?_;refine rC ?_;refine rP ?_;refine rC ?_;refine rP ?_;refine rC ?_;refine rP ?_;refine rC ?_;refine rQ iU ?_;refine rC ?_;refine rP ?_;refine rC ?_
     refine rP ?_;refine rC ?_;refine rP ?_;refine rC ?_;refine rQ iU ?_;refine rC ?_;refine rP ?_;refine rQ (call_r lives_is rfl rfl arg_nil (.inl rfl) (fun _ => rfl)) ?_
     refine rQ iU ?_;refine rC ?_;refine nS ?_;refine wc_ret ?_
     exact ⟨trivial, [], lf⟩
    ·refine qR ?_;iterate 2 refine rC ?_
     refine rQ iE ?_;refine rC ?_;refine nS ?_;refine wF ?_;refine wc_exit ?_;refine seq_x ?_;refine loop_x ?_;refine blk_x ?_;refine seq_n ?_;refine sR ?_;refine rC ?_
     refine rQ (call_r hck rfl rfl (arg_e arg_nil) (.inl rfl) (fun _ => rfl)) ?_;iterate 5 refine rC ?_
     refine nR ?_;refine rC ?_;refine rQ (call_r hsk rfl rfl (arg_e arg_nil) (.inl rfl) (fun _ => rfl)) ?_;iterate 5 refine rC ?_
     refine nQ ?_;refine sR ?_;iterate 4 refine rC ?_
     refine rP ?_;refine rC ?_;refine rP ?_;refine rC ?_;refine rP ?_;refine rC ?_;refine rT ?_;refine rP ?_;iterate 2 refine rQ iG ?_
     refine nS ?_;refine wG ?_;refine kS ?_;refine qR ?_;iterate 3 refine rC ?_
     refine rP ?_;refine rC ?_;refine rP ?_;refine rC ?_;refine rP ?_;refine rC ?_;refine rO ?_;refine rC ?_;refine rO ?_;refine rC ?_;refine rP ?_;refine rQ iF ?_;refine rQ iU ?_
     refine nS ?_;refine wF ?_;refine kS ?_;refine sR ?_;iterate 2 refine rC ?_
     refine rQ (StepIs.frozen (build_slice (s := 1) tab_ok rfl rfl rfl rfl rfl rfl rfl rfl) (Frz.litsN (enc := i6) [-1] rfl (fun _ _ => rfl))) ?_;refine rQ (call_r hac rfl rfl (arg_e (arg_e (arg_e arg_nil))) (.inl rfl) (fun _ => rfl)) ?_
     refine rC ?_;refine nQ ?_;refine sR ?_;iterate 3 refine rC ?_
     iterate 3 refine rT ?_
     refine rQ iG ?_;refine rC ?_;refine rP ?_;refine rC ?_;refine rP ?_;refine rC ?_;refine rP ?_;refine rC ?_;refine rP ?_;refine rC ?_;refine rP ?_;refine rC ?_;refine rP ?_
     refine rQ iU ?_;refine rQ iG ?_;refine nS ?_;refine wG ?_;refine kS ?_;refine qR ?_;iterate 3 refine rC ?_
     refine rP ?_;refine rC ?_;refine rP ?_;refine rC ?_;refine rP ?_;refine rC ?_;refine rO ?_;refine rC ?_;refine rO ?_;refine rC ?_;refine rP ?_;refine rQ iF ?_;refine rQ iU ?_
     refine nS ?_;refine wF ?_;refine kS ?_;refine qR ?_;iterate 2 refine rC ?_
     refine nS ?_;refine wV ?_;refine wc_region ?_;refine rC ?_;refine rQ (min_int rfl rfl hmin) ?_;refine rC ?_;refine nR ?_;iterate 3 refine rC ?_
     refine rQ (call_r hst rfl rfl (arg_e (arg_e (arg_e arg_nil))) (.inl rfl) (fun _ => rfl)) ?_;iterate 5 refine rC ?_
     refine nR ?_;iterate 3 refine rC ?_
     refine rQ (call_r hle rfl rfl (arg_e (arg_e (arg_e arg_nil))) (.inl rfl) (fun _ => rfl)) ?_;iterate 5 refine rC ?_
     refine nR ?_;iterate 3 refine rC ?_
     refine rQ (call_r hfi rfl rfl (arg_e (arg_e (arg_e arg_nil))) (.inl rfl) (fun _ => rfl)) ?_;iterate 7 refine rC ?_
     refine nQ ?_;refine sR ?_;iterate 2 refine rC ?_
     refine nS ?_;refine wG ?_;refine kS ?_;refine sR ?_;iterate 3 refine rC ?_
     refine rP ?_;refine rC ?_;refine rP ?_;refine rC ?_;refine rQ iG ?_;refine rC ?_;refine rP ?_;refine rC ?_;refine rP ?_;refine rC ?_;refine rP ?_;refine rC ?_;refine rQ iU ?_
     refine rC ?_;refine rP ?_;refine rC ?_;refine rP ?_;refine rC ?_;refine rP ?_;refine rC ?_;refine rQ iU ?_;refine rC ?_;refine rP ?_;refine rQ (call_r lives_is rfl rfl arg_nil (.inl rfl) (fun _ => rfl)) ?_
     refine rQ iU ?_;refine rC ?_;refine nS ?_;refine wc_ret ?_
     exact ⟨trivial, [], lf⟩
 ·have hE : opE h b = (chkH h).2 := by rw [opE, if_neg hc]
  obtain ⟨f1, f2, f3, f4⟩ := findH_err (h := h) (b := b) (fuel := fuel) (.inl (by rw [hE]; exact hc))
  rw [if_neg (by rw [hE]; exact hc), hE] at f3 f4
  rw [if_neg (by rw [hE]; exact hc), hE] at hac
  rw [if_neg hc] at hsk
  have R := run_err h b fuel (by omega) (.inl (by rw [hE]; exact hc))
  have hst := states_is R
  have hfi := find_is R
  have hle := legal_is R
  rw [f2, f4] at hst
  rw [f1, f3] at hfi hle
  generalize (chkH h).2 = C at hc hck hsk hac hst hfi hle
  have c0 : decide (C = 0) = false := dF hc
  have c1 : (!decide (C = 0)) = true := by rw [c0]; rfl
  have c2 : decide (C = C) = true := dT rfl
  have c3 : (!decide (C = C)) = false := by rw [c2]; rfl
  refine qR ?_;iterate 2 refine rC ?_
  refine rQ iE ?_;refine rC ?_;refine nS ?_;refine wF ?_;refine wc_exit ?_;refine seq_x ?_;refine loop_x ?_;refine blk_x ?_;refine seq_n ?_;refine sR ?_;refine rC ?_
  refine rQ (call_r hck rfl rfl (arg_e arg_nil) (.inl rfl) (fun _ => rfl)) ?_;iterate 5 refine rC ?_
  refine nR ?_;refine rC ?_;refine rQ (call_r hsk rfl rfl (arg_e arg_nil) (.inl rfl) (fun _ => rfl)) ?_;iterate 5 refine rC ?_
  refine nQ ?_;refine sR ?_;iterate 4 refine rC ?_
  refine rO ?_;refine rC ?_;refine rO ?_;refine rC ?_;refine rO ?_;refine rC ?_;refine rO ?_;refine rC ?_;refine rO ?_;refine rQ iT ?_;refine rQ iF ?_;refine nS ?_
  refine wG ?_;refine kS ?_;refine qR ?_;iterate 3 refine rC ?_
  iterate 3 refine rS ?_
  iterate 2 refine rU ?_
  refine rS ?_;refine rQ iF ?_;refine nS ?_;refine wG ?_;refine kS ?_;refine sR ?_;iterate 2 refine rC ?_
  refine rQ (StepIs.frozen (build_slice (s := 1) tab_ok rfl rfl rfl rfl rfl rfl rfl rfl) (Frz.litsN (enc := i6) [-1] rfl (fun _ _ => rfl))) ?_;refine rQ (call_r hac rfl rfl (arg_e (arg_e (arg_e arg_nil))) (.inl rfl) (fun _ => rfl)) ?_
  refine rC ?_;refine nQ ?_;refine sR ?_;iterate 3 refine rC ?_
  refine rO ?_;refine rC ?_;refine rO ?_;refine rC ?_;refine rO ?_;refine rC ?_;refine rQ iT ?_;refine rC ?_;refine rO ?_;refine rC ?_;refine rO ?_;refine rC ?_;refine rO ?_
  refine rC ?_;iterate 2 refine rS ?_
  refine rO ?_;iterate 2 refine rQ iF ?_
  refine nS ?_;refine wG ?_;refine kS ?_;refine qR ?_;iterate 3 refine rC ?_
  iterate 3 refine rS ?_
  iterate 2 refine rU ?_
  refine rS ?_;refine rQ iF ?_;refine nS ?_;refine wG ?_;refine kS ?_;refine qR ?_;iterate 2 refine rC ?_
  refine nS ?_;refine wF ?_;refine kS ?_;refine sR ?_;iterate 3 refine rC ?_
  refine rQ (call_r hst rfl rfl (arg_e (arg_e (arg_e arg_nil))) (.inl rfl) (fun _ => rfl)) ?_;iterate 5 refine rC ?_
  refine nR ?_;iterate 3 refine rC ?_
  refine rQ (call_r hle rfl rfl (arg_e (arg_e (arg_e arg_nil))) (.inl rfl) (fun _ => rfl)) ?_;iterate 5 refine rC ?_
  refine nR ?_;iterate 3 refine rC ?_
  refine rQ (call_r hfi rfl rfl (arg_e (arg_e (arg_e arg_nil))) (.inl rfl) (fun _ => rfl)) ?_;iterate 7 refine rC ?_
  refine nQ ?_;refine sR ?_;iterate 2 refine rC ?_
  refine nS ?_;refine wT ?_;refine sR ?_;iterate 4 refine rC ?_
  refine rO ?_;refine rC ?_;refine rO ?_;refine rC ?_;refine rO ?_;refine rC ?_;refine rQ iT ?_;refine rC ?_;refine rO ?_;refine rC ?_;refine rO ?_;refine rC ?_;refine rO ?_
  refine rC ?_;refine rQ iT ?_;refine rC ?_;refine rO ?_;refine rC ?_;refine rO ?_;refine rC ?_;refine rQ iT ?_;refine rC ?_;refine rP ?_;refine rC ?_;refine rP ?_
  refine rC ?_;refine rQ iU ?_;refine rC ?_;refine rP ?_;refine rC ?_;refine rP ?_;refine rC ?_;refine rQ iU ?_;refine rC ?_;refine rP ?_;refine rC ?_;refine rP ?_
  refine rQ (len_arx tab_ok rfl rfl) ?_;refine rP ?_;refine rC ?_;refine rQ iU ?_;refine rC ?_;refine rP ?_;refine rQ (call_r lives_is rfl rfl arg_nil (.inl rfl) (fun _ => rfl)) ?_
  refine rQ iU ?_;refine rC ?_;refine nS ?_;refine wc_ret ?_;refine seq_r ?_
  exact ⟨trivial, [], lf⟩
end Go.Proofs.Ytkehohfgbblokaa
namespace Go.Proofs.Ytkehohfgbblokaa
open Go.Eng Go.Plain
theorem pu8_of {a : Int} (h : (Lit.int .u8 a).wf = true) : 0 ≤ a ∧ a ≤ 255 := by
 simp [Lit.wf, IntKind.min, IntKind.max, IntKind.bits, IntKind.signed] at h
 omega
theorem pi64_of {a : Int} (h : (Lit.int .i64 a).wf = true) : -9223372036854775808 ≤ a ∧ a ≤ 9223372036854775807 := by
 simp [Lit.wf, IntKind.min, IntKind.max, IntKind.bits, IntKind.signed] at h
 omega
def toB (l : List Int) : List UInt8 := l.map fun z => z.toNat.toUInt8
theorem toB_byI {l : List Int} (h : ∀ a ∈ l, (Lit.int .u8 a).wf = true) : byI (toB l) = l := by
 rw [byI, toB, List.map_map]
 have : ∀ a ∈ l, ((fun b : UInt8 => (b.toNat : Int)) ∘ fun z : Int => z.toNat.toUInt8) a = a := fun a ha => by
  obtain ⟨h1, h2⟩ := pu8_of (h a ha)
  simp only [Function.comp_apply, Nat.toUInt8_eq, UInt8.toNat_ofNat']
  omega
 rw [List.map_congr_left this, List.map_id'']
 exact fun _ => rfl
theorem opens_bytes : Opens Try.prog 23 1 (fun l : List UInt8 => encB l) fun _ => True :=
 Opens.map (opens_slice (P := Try.prog) Try.underlying23 (by kernel_rfl) (opens_int (P := Try.prog) Try.underlying5))
  toB (fun l h => by show D.arr 1 encU8 (byI (toB l)) = _; rw [toB_byI h.2]; rfl) (fun _ _ => trivial)
theorem opens_pop : Opens Try.prog 25 3 encPOp POp.Ok :=
 Opens.map (opens_struct (P := Try.prog) Try.underlying25 (by kernel_rfl) (fun _ => rfl) (opensF_cons rfl (by kernel_rfl) (opens_int (P := Try.prog) Try.underlying22) (opensF_cons rfl (by kernel_rfl) (opens_int (P := Try.prog) Try.underlying3) (opensF_cons rfl (by kernel_rfl) opens_bytes opensF_nil))))
  (fun q => ⟨q.1, q.2.1, q.2.2.1⟩) (fun _ _ => rfl) (fun _ h => ⟨pu8_of h.1, pi64_of h.2.1⟩)
theorem toB_len (l : List Int) : (toB l).length = l.length := by simp [toB]
theorem opens_block : Opens Try.prog 27 32 (fun l : List UInt8 => encBk l) fun l => l.length = 32 :=
 Opens.map (opens_array (P := Try.prog) Try.underlying27 (by kernel_rfl) (by kernel_rfl) (opens_int (P := Try.prog) Try.underlying5))
  toB (fun l h => by show D.vec 32 1 encU8 (byI (toB l)) = _; rw [toB_byI h.2]; rfl) (fun l h => by rw [toB_len]; exact h.1)
theorem opens_event : Opens Try.prog 63 38 encEv HEv.Ok :=
 Opens.map (opens_struct (P := Try.prog) Try.underlying63 (by kernel_rfl) (fun _ => rfl) (opensF_cons rfl (by kernel_rfl) (opens_int (P := Try.prog) Try.underlying61) (opensF_cons rfl (by kernel_rfl) (opens_int (P := Try.prog) Try.underlying3) (opensF_cons rfl (by kernel_rfl) opens_pop (opensF_cons rfl (by kernel_rfl) opens_block (opensF_cons rfl (by kernel_rfl) (opens_int (P := Try.prog) Try.underlying28) opensF_nil))))))
  (fun q => ⟨q.1, q.2.1, q.2.2.1, q.2.2.2.1, q.2.2.2.2.1⟩) (fun _ _ => rfl) (fun _ h => ⟨pu8_of h.1, pi64_of h.2.1, h.2.2.1, h.2.2.2.1, pi64_of h.2.2.2.2.1⟩)
theorem opens_events : Opens Try.prog 40 1 encH fun l => ∀ x ∈ l, x.Ok :=
 Opens.map (opens_slice (P := Try.prog) Try.underlying40 (by kernel_rfl) opens_event) id (fun _ _ => rfl) (fun _ h => h.2)
end Go.Proofs.Ytkehohfgbblokaa
