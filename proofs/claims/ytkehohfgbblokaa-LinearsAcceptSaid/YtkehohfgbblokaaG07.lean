/- Texts of the proof: Y27, Y28, Y30, Y31, Y32, Y33, YA, Y34, YO. -/
import Derived.Test.YtkehohfgbblokaaG06
import Derived.Test.YtkehohfgbblokaaG03
import Derived.Test.YtkehohfgbblokaaG04
import Derived.Test.YtkehohfgbblokaaG02

set_option linter.unusedVariables false
set_option linter.unusedSimpArgs false
set_option linter.unusedSectionVars false

namespace Go.Proofs.Ytkehohfgbblokaa
open Go.Eng Go.Plain
set_option maxHeartbeats 32000000
set_option maxRecDepth 20000
attribute [local irreducible] WC RegS RegD SeqQ BlkQ ScoQ RegK CutK Sat SatN FnIs LoopQ StepIs OpIs
def eqN (a b : List Int) : Int := if a = b then 1 else 0
def eqG : List Int → List Int → Int
 | [], [] => 1
 | x :: a, y :: b => if x = y then eqG a b else 0
 | _, _ => 0
theorem eqG_eq : ∀ (a b : List Int), eqG a b = eqN a b
 | [], [] => rfl
 | x :: a, y :: b => by
  have ih := eqG_eq a b
  unfold eqN at ih ⊢
  unfold eqG
  by_cases h : x = y
  ·subst h; simp [ih]
  ·simp [h]
 | [], _ :: _ => by simp [eqG, eqN]
 | _ :: _, [] => by simp [eqG, eqN]
theorem equal_is (a b : List Int) (ha : a.length ≤ 1048576) : FnIs Try.prog 25 [.d (encIX a), .d (encL b)] [] (.d (i6 (eqN a b))) [] := by
 refine fnIs_of tab_ok Try.func25 rfl rfl rfl ?_
 by_cases hl : a.length = b.length
 ·have d1 : decide ((a.length : Int) = (b.length : Int)) = true := dT (by omega)
  have d1n : (!decide ((a.length : Int) = (b.length : Int))) = false := by rw [d1]; rfl
  have d2n : (!decide ((a.length : Int) = (a.length : Int))) = false := by rw [dT rfl]; rfl
  refine sR ?_;refine rC ?_;refine zW ?_;refine rC ?_;refine rQ (len_arx tab_ok rfl rfl) ?_;refine rC ?_;refine rQ iE ?_;refine zD ?_
  refine rO ?_;refine rC ?_;refine rO ?_;refine rQ (cap_arx tab_ok rfl rfl) ?_;refine rO ?_;refine rC ?_;refine rO ?_;refine rQ (len_arx tab_ok rfl rfl) ?_;refine rO ?_
  refine rC ?_;refine rQ iF ?_;refine zG ?_;refine kS ?_;refine qR ?_;refine rC ?_;refine zP ?_
  refine wc_inv (fun i : Nat => ⟨[(5, .int .i64 i), (0, .d (encIX a)), (1, .d (encL b))], [], 72, Try.f25.ntmps, 64⟩) (fun i => i ≤ a.length ∧ eqG (a.drop i) (b.drop i) = eqG a b) (fun i => a.length - i) 0 [] ⟨Nat.zero_le _, rfl⟩
   (lg zj trivial) ?_
  rintro i ⟨hi, hinv⟩
  refine wc_of ?_
  by_cases hlt : i < a.length
  ·have d3 : decide ((i : Int) < (a.length : Int)) = true := dT (by omega)
   obtain ⟨x, hx⟩ : ∃ x, a[i]? = some x := ⟨_, List.getElem?_eq_getElem hlt⟩
   obtain ⟨y, hy⟩ : ∃ y, b[i]? = some y := ⟨_, List.getElem?_eq_getElem (by omega)⟩
   have hx2 : a[((i : Int)).toNat]? = some x := by rw [Int.toNat_natCast]; exact hx
   have hy2 : b[((i : Int)).toNat]? = some y := by rw [Int.toNat_natCast]; exact hy
   have hs : eqG (a.drop i) (b.drop i) = if x = y then eqG (a.drop (i + 1)) (b.drop (i + 1)) else 0 := by
    rw [List.drop_eq_getElem_cons (List.getElem?_eq_some_iff.1 hx).1, (List.getElem?_eq_some_iff.1 hx).2, List.drop_eq_getElem_cons (List.getElem?_eq_some_iff.1 hy).1, (List.getElem?_eq_some_iff.1 hy).2]
    rfl
   rw [hs] at hinv
   by_cases he : x = y
   ·have d4 : (!decide (x = y)) = false := by rw [dT he]; rfl
    rw [if_pos he] at hinv
    refine qR ?_;refine zD ?_
    refine rQ (len_arx tab_ok rfl rfl) ?_;refine rC ?_;refine zI ?_;refine zQ ?_;refine wc_block ?_;refine wc_seq ?_;refine wc_draw (by kernel_rfl) ?_
    refine dC [0] [] ?_;refine dC [5] [] ?_;refine dQ [24, 25] [] (index_arx tab_ok rfl rfl rfl rfl rfl (by omega) hx2) ?_;refine dQ [26] [] iL ?_;refine dC [1] [] ?_
    refine dC [5] [] ?_;refine dQ [28, 29] [] (index_arr tab_ok rfl rfl rfl rfl rfl (by omega) hy2) ?_;refine dQ [30] [] iL ?_;refine dC [27, 31] [] ?_;refine dreg_end (by kernel_rfl) ?_
    refine seq_n ?_;refine wF ?_;refine wc_skip ?_;refine zC ?_;refine wc_region ?_;refine rC ?_;refine rQ iD ?_;refine rC ?_;refine reg_nil ?_
    exact loop_n (i + 1) [] ⟨hlt, hinv⟩ (by omega) (lg zj trivial)
   ·have d4 : (!decide (x = y)) = true := by rw [dF he]; rfl
    rw [if_neg he] at hinv
    rw [← eqG_eq, ← hinv]
    refine qR ?_;refine zD ?_
    refine rQ (len_arx tab_ok rfl rfl) ?_;refine rC ?_;refine zI ?_;refine zQ ?_;refine wc_block ?_;refine wc_seq ?_;refine wc_draw (by kernel_rfl) ?_
    refine dC [0] [] ?_;refine dC [5] [] ?_;refine dQ [24, 25] [] (index_arx tab_ok rfl rfl rfl rfl rfl (by omega) hx2) ?_;refine dQ [26] [] iL ?_;refine dC [1] [] ?_
    refine dC [5] [] ?_;refine dQ [28, 29] [] (index_arr tab_ok rfl rfl rfl rfl rfl (by omega) hy2) ?_;refine dQ [30] [] iL ?_;refine dC [27, 31] [] ?_;refine dreg_end (by kernel_rfl) ?_
    refine seq_n ?_;refine wT ?_;refine sR ?_;refine rC ?_;refine zT ?_;refine zB ?_;refine loop_r ?_;refine zB ?_
    exact ⟨trivial, [], lf⟩
  ·have d3 : decide ((i : Int) < (a.length : Int)) = false := dF (by omega)
   rw [List.drop_eq_nil_of_le (by omega), List.drop_eq_nil_of_le (by omega)] at hinv
   rw [← eqG_eq, ← hinv]
   refine qR ?_;refine zD ?_
   refine rQ (len_arx tab_ok rfl rfl) ?_;refine rC ?_;refine zG ?_;refine zX ?_;refine sR ?_
   refine rC ?_;refine zT ?_
   exact ⟨trivial, [], lf⟩
 ·have d1 : decide ((a.length : Int) = (b.length : Int)) = false := dF (by omega)
  have d1n : (!decide ((a.length : Int) = (b.length : Int))) = true := by rw [d1]; rfl
  have he : eqN a b = 0 := by rw [eqN, if_neg fun e => hl (by rw [e])]
  rw [he]
  refine sR ?_;refine rC ?_;refine zW ?_;refine rC ?_;refine rQ (len_arx tab_ok rfl rfl) ?_;refine rC ?_;refine rQ iE ?_;refine zD ?_
  iterate 5 refine rS ?_
  refine rQ iT ?_;refine zO ?_;refine sR ?_;refine rC ?_;refine zT ?_;refine seq_r ?_
  exact ⟨trivial, [], lf⟩
theorem equal_t (a : List Int) (ha : a.length ≤ 1048576) : FnIs Try.prog 25 [.d (encIX a), .d (encL a)] [] (.d (i6 1)) [] := by
 have := equal_is a a ha
 rwa [eqN, if_pos rfl] at this
abbrev fndE (o : List Int) (f : Bool) (e : Int) : AV := .tup (.acons (.d (encIX o)) (.acons (.bool f) (.acons (.int .i64 e) .anil)))
abbrev legE (f : Bool) (e : Int) : AV := .tup (.acons (.bool f) (.acons (.int .i64 e) .anil))
abbrev stsE (m e : Int) : AV := .tup (.acons (.int .i64 m) (.acons (.int .i64 e) .anil))
theorem lives_go (H G C1 C2 : List HEv) (hb1 : FnIs Try.prog 35 [.d (encBk onesB)] [] (.d (encH H)) []) (hb2 : FnIs Try.prog 35 [.d (encBk zBk)] [] (.d (encH G)) [])
  (crashed_t : FnIs Try.prog 37 [.bool true] [] (.d (encH C1)) []) (crashed_f : FnIs Try.prog 37 [.bool false] [] (.d (encH C2)) [])
  (hf1 : FnIs Try.prog 23 [.d (encH H), .int .i64 1, .int .i64 9] [] (fndE [0, 1] true 0) []) (hf2 : FnIs Try.prog 23 [.d (encH G), .int .i64 1, .int .i64 9] [] (fndE [1, 0] true 0) [])
  (hs1 : FnIs Try.prog 21 [.d (encH H), .int .i64 1, .int .i64 3] [] (stsE 3 0) []) (hs2 : FnIs Try.prog 21 [.d (encH H), .int .i64 1, .int .i64 2] [] (stsE 0 4) []) (hs3 : FnIs Try.prog 21 [.d (encH G), .int .i64 1, .int .i64 4] [] (stsE 4 0) [])
  (hacs : ∀ (k : Nat) o e, [[1, 0], [0], [0, 0], [0, 1]][k]? = some o → ([15, 15, 1, 0] : List Int)[k]? = some e → FnIs Try.prog 18 [.d (encH H), .int .i64 1, .d (encL o)] [] (.d (i6 e)) [])
  (hf3 : FnIs Try.prog 23 [.d (encH C1), .int .i64 1, .int .i64 99] [] (fndE [0, 1, 2, 3] true 0) []) (hl1 : FnIs Try.prog 22 [.d (encH C2), .int .i64 1, .int .i64 99] [] (legE false 0) [])
  (hl2 : FnIs Try.prog 22 [.d (encH (lostL ++ didL rdO onesB)), .int .i64 1, .int .i64 99] [] (legE false 0) []) (hf4 : FnIs Try.prog 23 [.d (encH (keptL ++ didL rdO onesB)), .int .i64 1, .int .i64 99] [] (fndE [0, 1, 2] true 0) [])
  (hsk : FnIs Try.prog 27 [.d (encH (badL0 ++ didL (wrO 1) zBk))] [] (legE false 0) []) (hl3 : FnIs Try.prog 22 [.d (encH (badL0 ++ didL (wrO 1) zBk)), .int .i64 1, .int .i64 9] [] (legE true 0) []) :
  FnIs Try.prog 12 [] [] (.bool true) [] := by
 refine fnIs_of tab_ok Try.func12 rfl rfl rfl ?_;refine sR ?_;refine rC ?_;refine nR ?_;refine rQ (call_r ones_is rfl rfl arg_nil (.inl rfl) (fun _ => rfl)) ?_;refine rQ (call_r hb1 rfl rfl (arg_e arg_nil) (.inl rfl) (fun _ => rfl)) ?_
 refine rQ (build_array tab_ok rfl rfl rfl) ?_;refine rQ (call_r hb2 rfl rfl (arg_e arg_nil) (.inl rfl) (fun _ => rfl)) ?_;refine zD ?_
 refine nR ?_;refine rC ?_;refine rQ (call_r hf1 rfl rfl (arg_e (arg_e (arg_e arg_nil))) (.inl rfl) (fun _ => rfl)) ?_;iterate 7 refine rC ?_
 refine nR ?_;refine rC ?_;refine rQ (call_r hf2 rfl rfl (arg_e (arg_e (arg_e arg_nil))) (.inl rfl) (fun _ => rfl)) ?_;iterate 7 refine rC ?_
 refine nR ?_;refine rC ?_;refine rQ (call_r hs1 rfl rfl (arg_e (arg_e (arg_e arg_nil))) (.inl rfl) (fun _ => rfl)) ?_;iterate 5 refine rC ?_
 refine nR ?_;refine rC ?_;refine rQ (call_r hs2 rfl rfl (arg_e (arg_e (arg_e arg_nil))) (.inl rfl) (fun _ => rfl)) ?_;iterate 5 refine rC ?_
 refine nR ?_;refine rC ?_;refine rQ (call_r hs3 rfl rfl (arg_e (arg_e (arg_e arg_nil))) (.inl rfl) (fun _ => rfl)) ?_;iterate 5 refine rC ?_
 refine zW ?_;refine zU ?_
 refine rP ?_;refine rC ?_;refine rP ?_;refine rC ?_;refine rQ iG ?_;refine rC ?_;refine rP ?_;refine rC ?_;refine rP ?_;refine rC ?_;refine rQ iG ?_;refine rC ?_
 refine rP ?_;refine rC ?_;refine rP ?_;refine rC ?_;refine rQ iG ?_;refine rC ?_;refine rP ?_;refine rC ?_;refine rP ?_;refine rC ?_;refine rQ iG ?_;refine rC ?_
 refine rP ?_;refine rC ?_;refine rP ?_;refine rC ?_;refine rQ iG ?_;refine rC ?_;refine rP ?_;refine rC ?_;refine rP ?_;refine rC ?_;refine rQ iG ?_;refine rC ?_
 refine rP ?_;refine rC ?_;refine rP ?_;refine rC ?_;refine rQ iG ?_;refine rC ?_;refine rP ?_;refine rC ?_;refine rP ?_;refine rC ?_;refine rQ iG ?_;refine rC ?_
 refine rP ?_;refine rC ?_;refine rP ?_;refine rQ (StepIs.frozen (build_slice (s := 1) tab_ok rfl rfl rfl rfl rfl rfl rfl rfl) (Frz.litsN (enc := i6) [0, 1] rfl (fun _ _ => rfl))) ?_
 refine rP ?_;refine rQ (call_r (equal_t [0, 1] (by decide)) rfl rfl (arg_e (arg_e arg_nil)) (.inl rfl) (fun _ => rfl)) ?_;refine rP ?_;refine rC ?_;refine rP ?_
 refine rQ (StepIs.frozen (build_slice (s := 1) tab_ok rfl rfl rfl rfl rfl rfl rfl rfl) (Frz.litsN (enc := i6) [1, 0] rfl (fun _ _ => rfl))) ?_;refine rP ?_;refine rQ (call_r (equal_t [1, 0] (by decide)) rfl rfl (arg_e (arg_e arg_nil)) (.inl rfl) (fun _ => rfl)) ?_
 refine rP ?_;refine rQ (mul_int (m := 1) tab_ok rfl rfl rfl) ?_;refine rP ?_;refine rC ?_;refine rQ iG ?_;refine zJ ?_;refine kS ?_;refine qR ?_;refine rQ (StepIs.frozen (build_slice (s := 1) tab_ok rfl rfl rfl rfl rfl rfl rfl rfl) (Frz.litsN (enc := i6) [1, 0] rfl (fun _ _ => rfl))) ?_
 refine rQ (StepIs.frozen (build_slice (s := 1) tab_ok rfl rfl rfl rfl rfl rfl rfl rfl) (Frz.litsN (enc := i6) [0] rfl (fun _ _ => rfl))) ?_;refine rQ (StepIs.frozen (build_slice (s := 1) tab_ok rfl rfl rfl rfl rfl rfl rfl rfl) (Frz.litsN (enc := i6) [0, 0] rfl (fun _ _ => rfl))) ?_
 refine rQ (StepIs.frozen (build_slice (s := 1) tab_ok rfl rfl rfl rfl rfl rfl rfl rfl) (Frz.litsN (enc := i6) [0, 1] rfl (fun _ _ => rfl))) ?_;refine rQ (StepIs.frozen (build_slice (s := 1) tab_ok rfl rfl rfl rfl rfl rfl rfl rfl) (Frz.litsN (enc := encL) [[1, 0], [0], [0, 0], [0, 1]] rfl (fun _ _ => rfl))) ?_
 refine rQ iE ?_;refine rC ?_;refine zP ?_
 refine wc_inv (fun k : Nat => ⟨[(107, .int .i64 k), (106, .int .i64 4), (105, .d (.arr 1 encL [[1, 0], [0], [0, 0], [0, 1]])), (1, .d (encH H))], [], 72, Try.f12.ntmps, 64⟩) (fun k => k ≤ 4) (fun k => 4 - k) 0 [] (Nat.zero_le _)
  (lg zi trivial) ?_
 intro k hk
 refine wc_of ?_
 by_cases h4 : k = 4
 ·subst h4
  refine sR ?_;refine rC ?_;refine nQ ?_;refine wG ?_;refine zX ?_;refine sR ?_;refine rQ (call_r crashed_t rfl rfl (arg_e arg_nil) (.inl rfl) (fun _ => rfl)) ?_
  refine rQ (call_r hf3 rfl rfl (arg_e (arg_e (arg_e arg_nil))) (.inl rfl) (fun _ => rfl)) ?_;iterate 7 refine rC ?_
  refine nR ?_;refine rQ (call_r crashed_f rfl rfl (arg_e arg_nil) (.inl rfl) (fun _ => rfl)) ?_;refine rQ (call_r hl1 rfl rfl (arg_e (arg_e (arg_e arg_nil))) (.inl rfl) (fun _ => rfl)) ?_
  iterate 5 refine rC ?_
  refine nR ?_;refine rQ (call_r (write_is 1) rfl rfl (arg_e arg_nil) (.inl rfl) (fun _ => rfl)) ?_;refine rQ iS ?_;refine rQ (StepIs.val_le (build_struct tab_ok rfl rfl rfl rfl) (evn_le 3 0 0 0 0 zBk) rfl) ?_
  refine rQ (StepIs.frozen (build_slice (s := 38) tab_ok rfl rfl rfl rfl rfl rfl rfl rfl) (Frz.litsX (enc := encEv) lostL rfl (fun _ => rfl))) ?_;refine rC ?_;refine nR ?_
  refine rQ (call_r (write_is 1) rfl rfl (arg_e arg_nil) (.inl rfl) (fun _ => rfl)) ?_;iterate 2 refine rQ iS ?_
  refine rQ (StepIs.val_le (build_struct tab_ok rfl rfl rfl rfl) (evn_le 1 1 3 0 0 zBk) rfl) ?_;refine rQ (StepIs.val_le (build_struct tab_ok rfl rfl rfl rfl) (evn_le 3 0 0 0 0 zBk) rfl) ?_
  refine rQ (StepIs.frozen (build_slice (s := 38) tab_ok rfl rfl rfl rfl rfl rfl rfl rfl) (Frz.litsX (enc := encEv) keptL rfl (fun _ => rfl))) ?_;refine rC ?_;refine nR ?_
  refine rC ?_;refine rQ (StepIs.val_le (build_struct tab_ok rfl rfl rfl rfl) (opn_le 1 0) rfl) ?_;refine rQ (call_r ones_is rfl rfl arg_nil (.inl rfl) (fun _ => rfl)) ?_
  refine rQ (call_r (did_is rdO onesB) rfl rfl (arg_e (arg_e arg_nil)) (.inl rfl) (fun _ => rfl)) ?_;refine rQ (StepIs.frozen (append_arx_arr (s := 38) (enc := encEv) (xs := lostL) (ys := didL rdO onesB) tab_ok rfl rfl rfl rfl rfl rfl (by decide) (by decide) rfl) (Frz.own (by decide))) ?_
  refine rQ (call_r hl2 rfl rfl (arg_e (arg_e (arg_e arg_nil))) (.inl rfl) (fun _ => rfl)) ?_;iterate 5 refine rC ?_
  refine nR ?_;refine rC ?_;refine rQ (StepIs.val_le (build_struct tab_ok rfl rfl rfl rfl) (opn_le 1 0) rfl) ?_;refine rQ (call_r ones_is rfl rfl arg_nil (.inl rfl) (fun _ => rfl)) ?_
  refine rQ (call_r (did_is rdO onesB) rfl rfl (arg_e (arg_e arg_nil)) (.inl rfl) (fun _ => rfl)) ?_;refine rQ (StepIs.frozen (append_arx_arr (s := 38) (enc := encEv) (xs := keptL) (ys := didL rdO onesB) tab_ok rfl rfl rfl rfl rfl rfl (by decide) (by decide) rfl) (Frz.own (by decide))) ?_
  refine rQ (call_r hf4 rfl rfl (arg_e (arg_e (arg_e arg_nil))) (.inl rfl) (fun _ => rfl)) ?_;iterate 7 refine rC ?_
  refine zW ?_;refine zU ?_
  refine rP ?_;refine rC ?_;refine rP ?_;refine rC ?_;refine rQ iG ?_;refine rC ?_;refine rP ?_;refine rC ?_;refine rP ?_;refine rC ?_;refine rQ iG ?_;refine rC ?_
  refine rP ?_;refine rC ?_;refine rP ?_;refine rC ?_;refine rQ iG ?_;refine rC ?_;refine rP ?_;refine rC ?_;refine rP ?_;refine rC ?_;refine rQ iG ?_;refine rC ?_
  refine rP ?_;refine rC ?_;refine rQ iG ?_;refine rC ?_;refine rP ?_;refine rC ?_;refine rQ iG ?_;refine rC ?_;refine rP ?_;refine rC ?_;refine rP ?_;refine rC ?_
  refine rQ iG ?_;refine rC ?_;refine rP ?_;refine rC ?_;refine rP ?_;refine rQ (StepIs.frozen (build_slice (s := 1) tab_ok rfl rfl rfl rfl rfl rfl rfl rfl) (Frz.litsN (enc := i6) [0, 1, 2, 3] rfl (fun _ _ => rfl))) ?_
  refine rP ?_;refine rQ (call_r (equal_t [0, 1, 2, 3] (by decide)) rfl rfl (arg_e (arg_e arg_nil)) (.inl rfl) (fun _ => rfl)) ?_;refine rP ?_;refine rC ?_;refine rP ?_
  refine rQ (StepIs.frozen (build_slice (s := 1) tab_ok rfl rfl rfl rfl rfl rfl rfl rfl) (Frz.litsN (enc := i6) [0, 1, 2] rfl (fun _ _ => rfl))) ?_;refine rP ?_;refine rQ (call_r (equal_t [0, 1, 2] (by decide)) rfl rfl (arg_e (arg_e arg_nil)) (.inl rfl) (fun _ => rfl)) ?_
  refine rP ?_;refine rQ (mul_int (m := 1) tab_ok rfl rfl rfl) ?_;refine rP ?_;refine rC ?_;refine rQ iG ?_;refine zJ ?_;refine kS ?_;refine sR ?_;refine rQ iS ?_
  refine rQ (StepIs.val_le (build_struct tab_ok rfl rfl rfl rfl) (evn_le 1 0 1 0 0 zBk) rfl) ?_;refine rQ (StepIs.val_le (build_struct tab_ok rfl rfl rfl rfl) (evn_le 2 0 0 0 9 zBk) rfl) ?_
  refine rQ (StepIs.frozen (build_slice (s := 38) tab_ok rfl rfl rfl rfl rfl rfl rfl rfl) (Frz.litsX (enc := encEv) badL0 rfl (fun _ => rfl))) ?_;refine rQ (call_r (write_is 1) rfl rfl (arg_e arg_nil) (.inl rfl) (fun _ => rfl)) ?_
  refine rQ (build_array tab_ok rfl rfl rfl) ?_;refine rQ (call_r (did_is (wrO 1) zBk) rfl rfl (arg_e (arg_e arg_nil)) (.inl rfl) (fun _ => rfl)) ?_;refine rQ (StepIs.frozen (append_arx_arr (s := 38) (enc := encEv) (xs := badL0) (ys := didL (wrO 1) zBk) tab_ok rfl rfl rfl rfl rfl rfl (by decide) (by decide) rfl) (Frz.own (by decide))) ?_
  refine rC ?_;refine nR ?_;refine rC ?_;refine rQ (call_r hsk rfl rfl (arg_e arg_nil) (.inl rfl) (fun _ => rfl)) ?_;iterate 5 refine rC ?_
  refine nR ?_;refine rC ?_;refine rQ (call_r hl3 rfl rfl (arg_e (arg_e (arg_e arg_nil))) (.inl rfl) (fun _ => rfl)) ?_;iterate 5 refine rC ?_
  refine nR ?_;refine zU ?_
  refine rP ?_;refine rC ?_;refine rP ?_;refine rC ?_;refine rQ iU ?_;refine rC ?_;refine rP ?_;refine rC ?_;refine rP ?_;refine rC ?_;refine rQ iU ?_;refine rC ?_
  refine rP ?_;refine rC ?_;refine rQ iU ?_;refine rC ?_;refine zT ?_
  exact ⟨trivial, [], lf⟩
 by_cases h0 : k = 0
 ·subst h0
  have hac := hacs 0 [1, 0] 15 rfl rfl
  have hod : ([[1, 0], [0], [0, 0], [0, 1]] : List (List Int))[(((0 : Nat) : Int)).toNat]? = some [1, 0] := rfl
  refine sR ?_;refine rC ?_;refine nQ ?_;refine wV ?_;refine zQ ?_;refine zS ?_;refine rC ?_;refine rQ (index_arr tab_ok rfl rfl rfl rfl rfl (by omega) hod) ?_
  refine rQ iL ?_;refine zD ?_
  refine nQ ?_;refine wc_draw (by kernel_rfl) ?_;refine dC [1] [] ?_;refine dC [16] [] ?_;refine dQ [112, 113] [] (call_r hac rfl rfl (arg_e (arg_e (arg_e arg_nil))) (.inl rfl) (fun _ => rfl)) ?_
  refine dQ [] [] (build_arr tab_ok rfl rfl rfl rfl rfl) ?_;refine dC [15] [] ?_;refine dQ [115, 116] [] (step_C tab_ok (fun K hk => ⟨by decide, by decide, _, rfl, hk⟩)) ?_
  refine dC [114, 117] [] ?_;refine dreg_end (by kernel_rfl) ?_;refine seq_n ?_;refine wG ?_;refine wc_skip ?_;refine zC ?_;refine wc_region ?_
  refine rQ iD ?_;refine rC ?_;refine reg_nil ?_
  exact loop_n 1 [] (by decide) (by decide) (lg zi trivial)
 by_cases h1 : k = 1
 ·subst h1
  have hac := hacs 1 [0] 15 rfl rfl
  have hod : ([[1, 0], [0], [0, 0], [0, 1]] : List (List Int))[(((1 : Nat) : Int)).toNat]? = some [0] := rfl
  refine sR ?_;refine rC ?_;refine nQ ?_;refine wV ?_;refine zQ ?_;refine zS ?_;refine rC ?_;refine rQ (index_arr tab_ok rfl rfl rfl rfl rfl (by omega) hod) ?_
  refine rQ iL ?_;refine zD ?_
  refine nQ ?_;refine wc_draw (by kernel_rfl) ?_;refine dC [1] [] ?_;refine dC [16] [] ?_;refine dQ [112, 113] [] (call_r hac rfl rfl (arg_e (arg_e (arg_e arg_nil))) (.inl rfl) (fun _ => rfl)) ?_
  refine dQ [] [] (build_arr tab_ok rfl rfl rfl rfl rfl) ?_;refine dC [15] [] ?_;refine dQ [115, 116] [] (step_C tab_ok (fun K hk => ⟨by decide, by decide, _, rfl, hk⟩)) ?_
  refine dC [114, 117] [] ?_;refine dreg_end (by kernel_rfl) ?_;refine seq_n ?_;refine wG ?_;refine wc_skip ?_;refine zC ?_;refine wc_region ?_
  refine rQ iD ?_;refine rC ?_;refine reg_nil ?_
  exact loop_n 2 [] (by decide) (by decide) (lg zi trivial)
 by_cases h2 : k = 2
 ·subst h2
  have hac := hacs 2 [0, 0] 1 rfl rfl
  have hod : ([[1, 0], [0], [0, 0], [0, 1]] : List (List Int))[(((2 : Nat) : Int)).toNat]? = some [0, 0] := rfl
  refine sR ?_;refine rC ?_;refine nQ ?_;refine wV ?_;refine zQ ?_;refine zS ?_;refine rC ?_;refine rQ (index_arr tab_ok rfl rfl rfl rfl rfl (by omega) hod) ?_
  refine rQ iL ?_;refine zD ?_
  refine nQ ?_;refine wc_draw (by kernel_rfl) ?_;refine dC [1] [] ?_;refine dC [16] [] ?_;refine dQ [112, 113] [] (call_r hac rfl rfl (arg_e (arg_e (arg_e arg_nil))) (.inl rfl) (fun _ => rfl)) ?_
  refine dQ [] [] (build_arr tab_ok rfl rfl rfl rfl rfl) ?_;refine dC [15] [] ?_;refine dQ [115, 116] [] (step_C tab_ok (fun K hk => ⟨by decide, by decide, _, rfl, hk⟩)) ?_
  refine dC [114, 117] [] ?_;refine dreg_end (by kernel_rfl) ?_;refine seq_n ?_;refine wG ?_;refine wc_skip ?_;refine zC ?_;refine wc_region ?_
  refine rQ iD ?_;refine rC ?_;refine reg_nil ?_
  exact loop_n 3 [] (by decide) (by decide) (lg zi trivial)
 ·obtain rfl : k = 3 := by omega
  have hac := hacs 3 [0, 1] 0 rfl rfl
  have hod : ([[1, 0], [0], [0, 0], [0, 1]] : List (List Int))[(((3 : Nat) : Int)).toNat]? = some [0, 1] := rfl
  refine sR ?_;refine rC ?_;refine nQ ?_;refine wV ?_;refine zQ ?_;refine zS ?_;refine rC ?_;refine rQ (index_arr tab_ok rfl rfl rfl rfl rfl (by omega) hod) ?_
  refine rQ iL ?_;refine zD ?_
  refine nQ ?_;refine wc_draw (by kernel_rfl) ?_;refine dC [1] [] ?_;refine dC [16] [] ?_;refine dQ [112, 113] [] (call_r hac rfl rfl (arg_e (arg_e (arg_e arg_nil))) (.inl rfl) (fun _ => rfl)) ?_
  refine dQ [] [] (build_arr tab_ok rfl rfl rfl rfl rfl) ?_;refine dC [15] [] ?_;refine dQ [115, 116] [] (step_C tab_ok (fun K hk => ⟨by decide, by decide, _, rfl, hk⟩)) ?_
  refine dC [114, 117] [] ?_;refine dreg_end (by kernel_rfl) ?_;refine seq_n ?_;refine wG ?_;refine wc_skip ?_;refine zC ?_;refine wc_region ?_
  refine rQ iD ?_;refine rC ?_;refine reg_nil ?_
  exact loop_n 4 [] (by decide) (by decide) (lg zi trivial)
theorem lives_is : FnIs Try.prog 12 [] [] (.bool true) [] := by
 have fnd : ∀ (h : List HEv) (fuel : Int) r, findH h 1 fuel = r → h.length ≤ 100 → fuel ≤ 100 → FnIs Try.prog 23 [.d (encH h), .int .i64 1, .int .i64 fuel] [] (fndE r.1.1 r.1.2 r.2) [] := fun h fuel r hr hh hf => by
  have := find_is (run_small h 1 fuel (by omega) (.inl (by omega)) (fun _ => by have := Nat.mul_le_mul (show fuel.toNat ≤ 100 by omega) (show h.length + 1 ≤ 101 by omega); omega))
  rwa [hr] at this
 have sts : ∀ (h : List HEv) (fuel : Int) r, statesH h 1 fuel = r → h.length ≤ 100 → fuel ≤ 100 → FnIs Try.prog 21 [.d (encH h), .int .i64 1, .int .i64 fuel] [] (stsE r.1 r.2) [] := fun h fuel r hr hh hf => by
  have := states_is (run_small h 1 fuel (by omega) (.inl (by omega)) (fun _ => by have := Nat.mul_le_mul (show fuel.toNat ≤ 100 by omega) (show h.length + 1 ≤ 101 by omega); omega))
  rwa [hr] at this
 have leg : ∀ (h : List HEv) (fuel : Int) (f : Bool) (e : Int), (findH h 1 fuel).1.2 = f ∧ (findH h 1 fuel).2 = e → h.length ≤ 100 → fuel ≤ 100 → FnIs Try.prog 22 [.d (encH h), .int .i64 1, .int .i64 fuel] [] (legE f e) [] := fun h fuel f e hr hh hf => by
  have := legal_is (run_small h 1 fuel (by omega) (.inl (by omega)) (fun _ => by have := Nat.mul_le_mul (show fuel.toNat ≤ 100 by omega) (show h.length + 1 ≤ 101 by omega); omega))
  rwa [hr.1, hr.2] at this
 refine lives_go (bothL onesB) (bothL zBk) (crashL true) (crashL false) (both_is _) (both_is _) crashed_t crashed_f (fnd _ 9 _ ex1 (by decide) (by decide)) (fnd _ 9 _ ex2 (by decide) (by decide)) (sts _ 3 _ ex3 (by decide) (by decide)) (sts _ 2 _ ex4 (by decide) (by decide)) (sts _ 4 _ ex5 (by decide) (by decide)) (fun k o e ho he => ?_) (fnd _ 99 _ ex6 (by decide) (by decide)) (leg _ 99 _ _ ex7 (by decide) (by decide)) (leg _ 99 _ _ ex8 (by decide) (by decide)) (fnd _ 99 _ ex9 (by decide) (by decide)) ?_ (leg _ 9 _ _ ex11 (by decide) (by decide))
 ·have hal : (rdH (bothL onesB)).all.length ≤ 1048576 := Nat.le_trans (rdH_all_len _) (by decide)
  have key : ∀ (o : List Int) (e : Int), _root_.Go.Proofs.Ytkehohfgbblokaa.accS 1 (opsH (bothL onesB)) o = e → o.length ≤ 100 → FnIs Try.prog 18 [.d (encH (bothL onesB)), .int .i64 1, .d (encL o)] [] (.d (i6 e)) [] := fun o e h1 h2 => by
   have := accept_is (bothL onesB) 1 o (by decide) hal (by omega)
   rwa [acA o e h1] at this
  match k, ho, he with
  | 0, ho, he => cases ho; cases he; exact key _ _ ex12.1 (by decide)
  | 1, ho, he => cases ho; cases he; exact key _ _ ex12.2.1 (by decide)
  | 2, ho, he => cases ho; cases he; exact key _ _ ex12.2.2.1 (by decide)
  | 3, ho, he => cases ho; cases he; exact key _ _ ex12.2.2.2 (by decide)
  | k + 4, ho, he => simp at ho
 ·have hal : (rdH badL).all.length ≤ 1048576 := Nat.le_trans (rdH_all_len _) (by decide)
  have := sticky_is badL (by decide) hal
  rw [ex10.1, ex10.2] at this
  exact this
abbrev r01d (b : Bool) : AV := .d (i6 (if b then 1 else 0))
theorem rmay_is (o : HOp) (b : Int) : FnIs Try.prog 14 [.d (encOpn o), .int .i64 b] [] (r01d (mayB o b)) [] := by
 have hb := rbad_is o.op b
 refine fnIs_of tab_ok Try.func14 rfl rfl rfl ?_
 unfold mayB
 cases hbd : badO o.op b with
 | true =>
  rw [hbd] at hb
  refine sR ?_;refine rN ?_;refine rC ?_;refine zW ?_;refine rC ?_;refine rQ iB ?_;refine rC ?_;refine rQ (call_r hb rfl rfl (arg_e (arg_e arg_nil)) (.inl rfl) (fun _ => rfl)) ?_
  refine rC ?_;refine zO ?_;refine sR ?_;refine rC ?_;refine zT ?_;refine seq_r ?_
  exact ⟨trivial, [], lf⟩
 | false =>
  rw [hbd] at hb
  cases h1 : decide (o.returned < 0) with
  | true =>
   refine sR ?_;refine rN ?_;refine rC ?_;refine zW ?_;refine rC ?_;refine rQ iB ?_;refine rC ?_;refine rQ (call_r hb rfl rfl (arg_e (arg_e arg_nil)) (.inl rfl) (fun _ => rfl)) ?_
   refine rC ?_;refine zJ ?_;refine kS ?_;refine qR ?_;refine rC ?_;refine rQ iB ?_;refine zD ?_
   iterate 3 refine rS ?_
   refine rQ iT ?_;refine rC ?_;iterate 3 refine rT ?_
   refine rQ iU ?_;refine zO ?_;refine sR ?_;refine rC ?_;refine zT ?_;refine seq_r ?_
   exact ⟨trivial, [], lf⟩
  | false =>
   cases h2 : decide (o.err = 0) with
   | true =>
    refine sR ?_;refine rN ?_;refine rC ?_;refine zW ?_;refine rC ?_;refine rQ iB ?_;refine rC ?_;refine rQ (call_r hb rfl rfl (arg_e (arg_e arg_nil)) (.inl rfl) (fun _ => rfl)) ?_
    refine rC ?_;refine zJ ?_;refine kS ?_;refine qR ?_;refine rC ?_;refine rQ iB ?_;refine zD ?_
    refine rO ?_;refine rC ?_;refine rO ?_;refine rQ iB ?_;refine rO ?_;refine rC ?_;refine rQ iF ?_;refine rC ?_;iterate 3 refine rS ?_
    refine rQ iT ?_;refine zO ?_;refine sR ?_;refine rC ?_;refine zT ?_;refine seq_r ?_
    exact ⟨trivial, [], lf⟩
   | false =>
    cases h3 : decide (o.err = 9) with
    | true =>
     refine sR ?_;refine rN ?_;refine rC ?_;refine zW ?_;refine rC ?_;refine rQ iB ?_;refine rC ?_;refine rQ (call_r hb rfl rfl (arg_e (arg_e arg_nil)) (.inl rfl) (fun _ => rfl)) ?_
     refine rC ?_;refine zJ ?_;refine kS ?_;refine qR ?_;refine rC ?_;refine rQ iB ?_;refine zD ?_
     refine rO ?_;refine rC ?_;refine rO ?_;refine rQ iB ?_;refine rO ?_;refine rC ?_;refine rQ iF ?_;refine rC ?_;refine rO ?_;refine rC ?_;refine rO ?_;refine rQ iB ?_
     refine rO ?_;refine rC ?_;refine rQ iF ?_;refine zI ?_;refine sR ?_;refine rC ?_;refine zT ?_;refine seq_r ?_
     exact ⟨trivial, [], lf⟩
    | false =>
     refine sR ?_;refine rN ?_;refine rC ?_;refine zW ?_;refine rC ?_;refine rQ iB ?_;refine rC ?_;refine rQ (call_r hb rfl rfl (arg_e (arg_e arg_nil)) (.inl rfl) (fun _ => rfl)) ?_
     refine rC ?_;refine zJ ?_;refine kS ?_;refine qR ?_;refine rC ?_;refine rQ iB ?_;refine zD ?_
     refine rO ?_;refine rC ?_;refine rO ?_;refine rQ iB ?_;refine rO ?_;refine rC ?_;refine rQ iF ?_;refine rC ?_;refine rO ?_;refine rC ?_;refine rO ?_;refine rQ iB ?_
     refine rO ?_;refine rC ?_;refine rQ iF ?_;refine zG ?_;refine kS ?_;refine sR ?_;refine rC ?_;refine zT ?_
     exact ⟨trivial, [], lf⟩
theorem rmust_is (o : HOp) : FnIs Try.prog 16 [.d (encOpn o)] [] (r01d (mustB o)) [] := by
 refine fnIs_of tab_ok Try.func16 rfl rfl rfl ?_
 unfold mustB
 cases h1 : decide (0 ≤ o.returned) with
 | true =>
  cases h2 : decide (o.err = 0) with
  | true =>
   refine sR ?_;refine rN ?_;refine rC ?_;refine zW ?_;refine rC ?_;refine rQ iB ?_;refine zD ?_
   refine rO ?_;refine rC ?_;refine rO ?_;refine rQ iB ?_;refine rO ?_;refine rC ?_;refine rQ iT ?_;refine zI ?_;refine sR ?_;refine rC ?_;refine nS ?_
   refine wc_ret ?_;refine seq_r ?_
   exact ⟨trivial, [], lf⟩
  | false =>
   refine sR ?_;refine rN ?_;refine rC ?_;refine zW ?_;refine rC ?_;refine rQ iB ?_;refine zD ?_
   refine rO ?_;refine rC ?_;refine rO ?_;refine rQ iB ?_;refine rO ?_;refine rC ?_;refine rQ iT ?_;refine zG ?_;refine kS ?_;refine sR ?_;refine rC ?_
   refine zT ?_
   exact ⟨trivial, [], lf⟩
 | false =>
  refine sR ?_;refine rN ?_;refine rC ?_;refine zW ?_;refine rC ?_;refine rQ iB ?_;refine zD ?_
  iterate 3 refine rS ?_
  refine rQ iF ?_;refine zJ ?_;refine kS ?_;refine sR ?_;refine rC ?_;refine zT ?_
  exact ⟨trivial, [], lf⟩
def stB (o p : HOp) : Bool := decide (o.err = 9) && (decide (o.era = p.era) && (decide (o.returned < p.invoked) && (decide (0 ≤ p.returned) && (decide (p.err = 0) || decide (p.err = 8)))))
def rstV (l : List HOp) : Bool := !l.any fun o => l.any (stB o)
theorem any_drop {α : Type} (f : α → Bool) {l : List α} {i : Nat} {o : α} (h : l[i]? = some o) : (l.drop i).any f = (f o || (l.drop (i + 1)).any f) := by
 have hlt := (List.getElem?_eq_some_iff.1 h).1
 rw [List.drop_eq_getElem_cons hlt, (List.getElem?_eq_some_iff.1 h).2, List.any_cons]
theorem opsRG_len (h : List HEv) : ∀ (n i : Nat) (out : List HOp) (era : Int), (opsRG h n i out era).length ≤ out.length + n
 | 0, _, out, _ => by simp [opsRG]
 | n + 1, i, out, era => by
  rw [opsRG]
  split
  ·omega
  ·split
   ·have := opsRG_len h n (i + 1) out (era + 1); omega
   ·split
    ·rename_i x _ _ _
     have := opsRG_len h n (i + 1) (out ++ [mkOp h i x out era]) era
     rw [List.length_append, List.length_singleton] at this
     omega
    ·have := opsRG_len h n (i + 1) out era; omega
theorem opsR_len (h : List HEv) : (opsR h).length ≤ h.length := by
 have := opsRG_len h h.length 0 [] 0
 simpa [opsR] using this
structure RS where
 era : Int
 taken : List Int
 arr : List (List UInt8)
 dur : List (List UInt8)
abbrev encBs (l : List (List UInt8)) : D := .arr 32 encBk l
def encRS (s : RS) : D := .cons (i6 s.era) (.cons (encIs s.taken) (.cons (encBs s.arr) (.cons (encBs s.dur) .nil)))
abbrev bsRow (l : List (List UInt8)) : Row := .ds 27 32 true encBk l
theorem setTR {α : Type} {l : List α} {k : Nat} {x z : α} (h : l[k]? = some x) : (l.take k ++ List.replicate (l.length - k) z).set k x = l.take (k + 1) ++ List.replicate (l.length - (k + 1)) z := by
 have hlt := (List.getElem?_eq_some_iff.1 h).1
 obtain ⟨m, hm⟩ : ∃ m, l.length - k = m + 1 := ⟨l.length - k - 1, by omega⟩
 rw [hm, show l.length - (k + 1) = m by omega, List.replicate_succ, List.set_append_right _ _ (by rw [List.length_take]; omega), List.length_take, Nat.min_eq_left (by omega), Nat.sub_self, List.set_cons_zero, List.take_add_one, h]
 simp
theorem copied_own (l : List (List UInt8)) (hl : l.length ≤ 1048576) : FnIs Try.prog 65 [.d (encBs l)] [] (.own 64 0 l.length 32 none) [(64, bsRow l)] := by
 refine fnIs_of tab_ok Try.func65 rfl rfl rfl ?_;refine sR ?_;refine rC ?_;refine nR ?_;refine rC ?_;refine rQ iE ?_;refine reg_new (make_full (enc := encBk) (s := 32) (N := l.length) tab_ok zBk rfl rfl rfl rfl rfl rfl rfl hl rfl) rfl ?_
 refine rC ?_;refine zW ?_;refine rC ?_;refine zP ?_
 refine wc_inv (fun k : Nat => ⟨[(4, .int .i64 k), (3, .own 65 0 l.length 32 none), (0, .d (encBs l))], [(65, some (bsRow (l.take k ++ List.replicate (l.length - k) zBk)))], 72, Try.f65.ntmps, 64⟩) (fun k => k ≤ l.length) (fun k => l.length - k) 0 [(65, some _)] (Nat.zero_le _)
  (lg zj ⟨zR, trivial⟩) ?_
 intro k hk
 refine wc_of ?_
 by_cases hlt : k < l.length
 ·have d1 : decide ((k : Int) < (l.length : Int)) = true := dT (by omega)
  obtain ⟨x, hx⟩ : ∃ x, l[k]? = some x := ⟨_, List.getElem?_eq_getElem hlt⟩
  have hx2 : l[((k : Int)).toNat]? = some x := by rw [Int.toNat_natCast]; exact hx
  obtain ⟨z0, hz1⟩ : ∃ z0, (l.take k ++ List.replicate (l.length - k) zBk)[k]? = some z0 := ⟨_, List.getElem?_eq_getElem (by rw [List.length_append, List.length_take, List.length_replicate]; omega)⟩
  have hz0 : (l.take k ++ List.replicate (l.length - k) zBk)[((k : Int)).toNat]? = some z0 := by rw [Int.toNat_natCast]; exact hz1
  have hset : (l.take k ++ List.replicate (l.length - k) zBk).set ((k : Int)).toNat x = l.take (k + 1) ++ List.replicate (l.length - (k + 1)) zBk := by rw [Int.toNat_natCast]; exact setTR hx
  refine qR ?_;refine zD ?_
  refine rQ iE ?_;refine rC ?_;refine zI ?_;refine zQ ?_;refine wc_block ?_;refine wc_region ?_;iterate 4 refine rC ?_
  refine rQ (index_arr tab_ok rfl rfl rfl rfl rfl (by omega) hx2) ?_;refine rQ iL ?_;refine rQ (index_own tab_ok rfl rfl rfl rfl rfl (by omega) (by omega)) ?_;refine reg_store (store_row tab_ok rfl rfl rfl ⟨rfl, z0, x, hz0, ⟨rfl, rfl, rfl⟩, rfl⟩ rfl) ?_
  refine reg_nil ?_;refine zC ?_;refine wc_region ?_;refine rC ?_;refine rQ iD ?_;refine rC ?_;refine reg_nil ?_
  exact loop_n (k + 1) [(65, some 65)] hlt (by omega) (lg zj ⟨⟨rfl, rfl, _, rfl, RowLe.of_eq (congrArg bsRow hset)⟩, trivial⟩)
 ·have d1 : decide ((k : Int) < (l.length : Int)) = false := dF (by omega)
  obtain rfl : k = l.length := by omega
  rw [List.take_length, Nat.sub_self, List.replicate_zero, List.append_nil]
  refine qR ?_;refine zD ?_
  refine rQ iE ?_;refine rC ?_;refine zG ?_;refine zX ?_;refine sR ?_;refine zD ?_
  refine zT ?_
  exact ⟨trivial, [(64, some 65)], lg zV ⟨zR, trivial⟩⟩
theorem copied_is (l : List (List UInt8)) (hl : l.length ≤ 1048576) : FnIs Try.prog 65 [.d (encBs l)] [] (.d (encBs l)) [] := (copied_own l hl).freeze_out 64 _ rfl (Frz.own rfl) trivial
def first0R (n : Nat) : RS := ⟨0, [], List.replicate n zBk, List.replicate n zBk⟩
theorem fst_le (n : Nat) : DLe (.cons (i6 0) (.cons (.sc nil_) (.cons (encBs (List.replicate n zBk)) (.cons (encBs (List.replicate n zBk)) .nil)))) (encRS (first0R n)) := by
 rintro w X cs ⟨c1, r1, rfl, h1, c2, r2, rfl, h2, h3⟩
 exact ⟨c1, _, rfl, h1, c2, _, rfl, .inl ⟨rfl, h2.1⟩, h3⟩
theorem rfirst_is (n : Nat) (hn : n ≤ 1048576) : FnIs Try.prog 48 [.int .i64 n] [] (.d (encRS (first0R n))) [] := by
 refine fnIs_of tab_ok Try.func48 rfl rfl rfl ?_;refine sR ?_;refine rN ?_;refine nQ ?_;refine wc_draw (by kernel_rfl) ?_;refine dC [0] [] ?_;refine dQ [3] [] (StepIs.frozen (make_full (enc := encBk) (s := 32) (N := n) tab_ok zBk rfl rfl rfl rfl rfl rfl rfl hn rfl) (Frz.own (by rw [List.length_replicate]))) ?_
 refine dC [0] [] ?_;refine dQ [5] [] (StepIs.frozen (make_full (enc := encBk) (s := 32) (N := n) tab_ok zBk rfl rfl rfl rfl rfl rfl rfl hn rfl) (Frz.own (by rw [List.length_replicate]))) ?_
 refine dQ [4, 6] [] (StepIs.val_le (build_struct tab_ok rfl rfl rfl rfl) (fst_le n) rfl) ?_;refine dreg_s [2, 7] [64] (store_row tab_ok rfl rfl rfl ⟨_, ⟨rfl, rfl, rfl⟩, rfl⟩ rfl) ?_
 refine dreg_end (by kernel_rfl) ?_;refine seq_n ?_;refine wc_ret ?_
 exact ⟨trivial, _, rfl, [], lf⟩
def crashR (s : RS) : RS := ⟨s.era + 1, [], s.dur, s.dur⟩
theorem cra_le (e : Int) (d : List (List UInt8)) : DLe (.cons (i6 e) (.cons (.sc nil_) (.cons (encBs d) (.cons (encBs d) .nil)))) (encRS ⟨e, [], d, d⟩) := by
 rintro w X cs ⟨c1, r1, rfl, h1, c2, r2, rfl, h2, h3⟩
 exact ⟨c1, _, rfl, h1, c2, _, rfl, .inl ⟨rfl, h2.1⟩, h3⟩
theorem rcrashed_is (s : RS) (hd : s.dur.length ≤ 1048576) (he : IntKind.i64.wrap (s.era + 1) = s.era + 1) : FnIs Try.prog 51 [.d (encRS s)] [] (.d (encRS (crashR s))) [] := by
 have hc := copied_is s.dur hd
 refine fnIs_of tab_ok Try.func51 rfl rfl rfl ?_;refine sR ?_;iterate 2 refine rN ?_
 refine nQ ?_;refine wc_draw (by kernel_rfl) ?_;refine dC [1] [] ?_;refine dQ [3] [64] iB ?_;refine dQ [4] [] (add_int (m := s.era + 1) tab_ok rfl rfl he) ?_;refine dC [1] [] ?_
 refine dQ [6] [64] iB ?_;refine dQ [7] [] (call_r hc rfl rfl (arg_e arg_nil) (.inl rfl) (fun _ => rfl)) ?_;refine dC [1] [] ?_;refine dQ [9] [64] iB ?_;refine dQ [10] [] (call_r hc rfl rfl (arg_e arg_nil) (.inl rfl) (fun _ => rfl)) ?_
 refine dQ [5, 8, 11] [] (StepIs.val_le (build_struct tab_ok rfl rfl rfl rfl) (cra_le (s.era + 1) s.dur) rfl) ?_;refine dreg_s [2, 12] [72] (store_row tab_ok rfl rfl rfl ⟨_, ⟨rfl, rfl, rfl⟩, rfl⟩ rfl) ?_
 refine dreg_end (by kernel_rfl) ?_;refine seq_n ?_;refine wc_ret ?_
 exact ⟨trivial, _, rfl, [], lf⟩
theorem rhas_is (l : List Int) (n : Int) (hl : l.length ≤ 1048576) : FnIs Try.prog 49 [.d (encIs l), .int .i64 n] [] (.d (i6 (if l.any (fun y => decide (y = n)) = true then 1 else 0))) [] := by
 refine fnIs_of tab_ok Try.func49 rfl rfl rfl ?_;refine sR ?_;refine rC ?_;refine zW ?_;refine rC ?_;refine zP ?_
 refine wc_inv (fun k : Nat => ⟨[(5, .int .i64 k), (1, .int .i64 n), (0, .d (encIs l))], [], 72, Try.f49.ntmps, 64⟩) (fun k => k ≤ l.length ∧ (l.drop k).any (fun y => decide (y = n)) = l.any (fun y => decide (y = n))) (fun k => l.length - k) 0 [] ⟨Nat.zero_le _, rfl⟩
  (lg zj trivial) ?_
 rintro k ⟨hk, hd⟩
 refine wc_of ?_
 by_cases hlt : k < l.length
 ·have d1 : decide ((k : Int) < (l.length : Int)) = true := dT (by omega)
  obtain ⟨x, hx⟩ : ∃ x, l[k]? = some x := ⟨_, List.getElem?_eq_getElem hlt⟩
  have hx2 : l[((k : Int)).toNat]? = some x := by rw [Int.toNat_natCast]; exact hx
  rw [any_drop _ hx] at hd
  by_cases h2 : x = n
  ·have d2 : decide (x = n) = true := dT h2
   rw [d2, Bool.true_or] at hd
   rw [if_pos hd.symm]
   refine qR ?_;refine zD ?_
   refine rQ iE ?_;refine rC ?_;refine zI ?_;refine zQ ?_;refine zS ?_;refine zD ?_
   refine rQ (index_arr tab_ok rfl rfl rfl rfl rfl (by omega) hx2) ?_;refine rQ iL ?_;refine zD ?_
   refine zI ?_;refine sR ?_;refine rC ?_;refine zT ?_;refine zB ?_;refine loop_r ?_;refine zB ?_
   exact ⟨trivial, [], lf⟩
  ·have d2 : decide (x = n) = false := dF h2
   rw [d2, Bool.false_or] at hd
   refine qR ?_;refine zD ?_
   refine rQ iE ?_;refine rC ?_;refine zI ?_;refine zQ ?_;refine zS ?_;refine zD ?_
   refine rQ (index_arr tab_ok rfl rfl rfl rfl rfl (by omega) hx2) ?_;refine rQ iL ?_;refine zD ?_
   refine zG ?_;refine wc_skip ?_;refine zC ?_;refine wc_region ?_;refine rC ?_;refine rQ iD ?_;refine rC ?_;refine reg_nil ?_
   exact loop_n (k + 1) [] ⟨hlt, hd⟩ (by omega) (lg zj trivial)
 ·have d1 : decide ((k : Int) < (l.length : Int)) = false := dF (by omega)
  rw [List.drop_eq_nil_of_le (by omega), List.any_nil] at hd
  rw [if_neg (by rw [← hd]; decide)]
  refine qR ?_;refine zD ?_
  refine rQ iE ?_;refine rC ?_;refine zG ?_;refine zX ?_;refine sR ?_;refine rC ?_
  refine zT ?_
  exact ⟨trivial, [], lf⟩
theorem set_same {α : Type} {l : List α} {i : Nat} {x : α} (h : l[i]? = some x) : l.set i x = l := by
 apply List.ext_getElem?
 intro j
 rw [List.getElem?_set]
 split
 ·rename_i e
  subst e
  rw [if_pos (List.getElem?_eq_some_iff.1 h).1, h]
 ·rfl
def pgAt (l : List (List UInt8)) (i : Int) : List UInt8 := l[i.toNat]?.getD zBk
def hapR (s : RS) (o : HOp) : RS × Bool :=
 if o.op.kind = 1 then (s, !mustB o || decide (pgAt s.arr o.op.index = o.value))
 else if o.op.kind = 2 then ({ s with arr := s.arr.set o.op.index.toNat o.op.data }, true)
 else ({ s with dur := s.arr }, true)
structure HapOk (s : RS) (o : HOp) : Prop where
 al : s.arr.length ≤ 1048576
 dl : s.dur.length ≤ 1048576
 pg : ∀ p ∈ s.arr, p.length = 32
 kd : o.op.kind = 1 ∨ o.op.kind = 2 ∨ o.op.kind = 3
 ix : o.op.kind = 1 ∨ o.op.kind = 2 → 0 ≤ o.op.index ∧ o.op.index < s.arr.length
 dt : o.op.kind = 2 → o.op.data.length = 32
abbrev hapE (r : RS × Bool) : AV := .tup (.acons (.d (encRS r.1)) (.acons (r01d r.2) .anil))
theorem rhappen1 (s : RS) (o : HOp) (h : HapOk s o) (h1 : o.op.kind = 1) : FnIs Try.prog 52 [.d (encRS s), .d (encOpn o)] [] (hapE (hapR s o)) [] := by
 have hca := copied_is s.arr h.al
 have hcd := copied_is s.dur h.dl
 have hmu := rmust_is o
 have k1 : decide (o.op.kind = 1) = true := dT h1
 have k2 : decide (o.op.kind = 2) = false := dF (by omega)
 have k3 : decide (o.op.kind = 3) = false := dF (by omega)
 obtain ⟨hi0, hi1⟩ := h.ix (.inl h1)
 obtain ⟨x, hx⟩ : ∃ x, s.arr[o.op.index.toNat]? = some x := ⟨_, List.getElem?_eq_getElem (by omega)⟩
 have hp : pgAt s.arr o.op.index = x := by rw [pgAt, hx]; rfl
 refine fnIs_of tab_ok Try.func52 rfl rfl rfl ?_
 rw [hapR, if_pos h1, hp]
 cases hm : mustB o with
 | false =>
  rw [hm] at hmu
  refine sR ?_;iterate 3 refine rN ?_
  refine rC ?_;refine nQ ?_;refine wc_draw (by kernel_rfl) ?_;refine dC [2] [] ?_;refine dQ [8] [64] iB ?_;refine dC [2] [] ?_;refine dQ [10] [64] iB ?_;refine dC [2] [] ?_
  refine dQ [12] [64] iB ?_;refine dQ [13] [] (call_r hca rfl rfl (arg_e arg_nil) (.inl rfl) (fun _ => rfl)) ?_;refine dC [2] [] ?_;refine dQ [15] [64] iB ?_;refine dQ [16] [] (call_r hcd rfl rfl (arg_e arg_nil) (.inl rfl) (fun _ => rfl)) ?_
  refine dQ [9, 11, 14, 17] [] iS ?_;refine dreg_w [] [] rfl (step_C tab_ok (fun K hk => hk)) ?_;refine dreg_s [6, 18] [184] (store_row tab_ok rfl rfl rfl ⟨_, ⟨rfl, rfl, rfl⟩, rfl⟩ rfl) ?_
  refine dreg_end (by kernel_rfl) ?_;refine seq_n ?_;refine qR ?_;refine zD ?_
  refine rQ iB ?_;refine zP ?_;refine sR ?_;refine zD ?_
  refine zI ?_;refine wc_seq ?_;refine wc_draw (by kernel_rfl) ?_;refine dQ [3] [72] iM ?_;refine dQ [24] [] (call_r hmu rfl rfl (arg_e arg_nil) (.inl rfl) (fun _ => rfl)) ?_
  refine dC [25] [] ?_;refine dC [26] [] ?_;refine dreg_offq [27, 2] rfl rfl rfl rfl ?_;refine dreg_offq [27, 28] rfl rfl rfl rfl ?_;refine dreg_offq [27, 3] rfl rfl rfl rfl ?_
  refine dreg_offq [27, 30] rfl rfl rfl rfl ?_;refine dreg_offq [27, 31] rfl rfl rfl rfl ?_;refine dreg_offq [27, 29, 32] rfl rfl rfl rfl ?_;refine dreg_offq [27, 33] rfl rfl rfl rfl ?_
  refine dreg_offq [27, 3] rfl rfl rfl rfl ?_;refine dreg_offq [27, 35] rfl rfl rfl rfl ?_;refine dreg_offq [27, 34, 36] rfl rfl rfl rfl ?_;refine dQ [27, 37] [] iG ?_
  refine dreg_end (by kernel_rfl) ?_;refine seq_n ?_;refine wG ?_;refine wc_skip ?_;refine zC ?_;refine sR ?_;refine rQ iM ?_;refine rW ?_;refine rC ?_
  refine zT ?_
  exact ⟨trivial, _, rfl, [], lf⟩
 | true =>
  rw [hm] at hmu
  by_cases he : x = o.value
  ·have d2 : decide (x = o.value) = true := dT he
   have d1 : (!decide (x = o.value)) = false := by rw [d2]; rfl
   rw [d2]
   refine sR ?_;iterate 3 refine rN ?_
   refine rC ?_;refine nQ ?_;refine wc_draw (by kernel_rfl) ?_;refine dC [2] [] ?_;refine dQ [8] [64] iB ?_;refine dC [2] [] ?_;refine dQ [10] [64] iB ?_;refine dC [2] [] ?_
   refine dQ [12] [64] iB ?_;refine dQ [13] [] (call_r hca rfl rfl (arg_e arg_nil) (.inl rfl) (fun _ => rfl)) ?_;refine dC [2] [] ?_;refine dQ [15] [64] iB ?_;refine dQ [16] [] (call_r hcd rfl rfl (arg_e arg_nil) (.inl rfl) (fun _ => rfl)) ?_
   refine dQ [9, 11, 14, 17] [] iS ?_;refine dreg_w [] [] rfl (step_C tab_ok (fun K hk => hk)) ?_;refine dreg_s [6, 18] [184] (store_row tab_ok rfl rfl rfl ⟨_, ⟨rfl, rfl, rfl⟩, rfl⟩ rfl) ?_
   refine dreg_end (by kernel_rfl) ?_;refine seq_n ?_;refine qR ?_;refine zD ?_
   refine rQ iB ?_;refine zP ?_;refine sR ?_;refine zD ?_
   refine zI ?_;refine wc_seq ?_;refine wc_draw (by kernel_rfl) ?_;refine dQ [3] [72] iM ?_;refine dQ [24] [] (call_r hmu rfl rfl (arg_e arg_nil) (.inl rfl) (fun _ => rfl)) ?_
   refine dC [25] [] ?_;refine dC [26] [] ?_;refine dreg_onq [27, 2] [] rfl rfl rfl rfl (step_C tab_ok (fun K hk => hk)) ?_;refine dreg_onq [27, 28] [64] rfl rfl rfl rfl (load_box tab_ok rfl rfl ⟨_, rfl, rfl⟩ rfl) ?_
   refine dreg_onq [27, 3] [] rfl rfl rfl rfl (step_C tab_ok (fun K hk => hk)) ?_;refine dreg_onq [27, 30] [] rfl rfl rfl rfl (step_C tab_ok (fun K hk => hk)) ?_;refine dreg_onq [27, 31] [72] rfl rfl rfl rfl (load_box tab_ok rfl rfl ⟨_, rfl, rfl⟩ rfl) ?_
   refine dreg_onq [27, 29, 32] [] rfl rfl rfl rfl (index_arr tab_ok rfl rfl rfl rfl rfl hi0 hx) ?_;refine dreg_onq [27, 33] [] rfl rfl rfl rfl (load_i tab_ok rfl rfl) ?_
   refine dreg_onq [27, 3] [] rfl rfl rfl rfl (step_C tab_ok (fun K hk => hk)) ?_;refine dreg_onq [27, 35] [72] rfl rfl rfl rfl (load_box tab_ok rfl rfl ⟨_, rfl, rfl⟩ rfl) ?_
   refine dreg_onq [27, 34, 36] [] rfl rfl rfl rfl (neq_data rfl rfl rfl rfl (by kernel_rfl) (by decide) (block_eq x o.value)) ?_;refine dQ [27, 37] [] iU ?_;refine dreg_end (by kernel_rfl) ?_
   refine seq_n ?_;refine wF ?_;refine wc_skip ?_;refine zC ?_;refine sR ?_;refine rQ iM ?_;refine rW ?_;refine rC ?_;refine zT ?_
   exact ⟨trivial, _, rfl, [], lf⟩
  ·have d2 : decide (x = o.value) = false := dF he
   have d1 : (!decide (x = o.value)) = true := by rw [d2]; rfl
   rw [d2]
   refine sR ?_;iterate 3 refine rN ?_
   refine rC ?_;refine nQ ?_;refine wc_draw (by kernel_rfl) ?_;refine dC [2] [] ?_;refine dQ [8] [64] iB ?_;refine dC [2] [] ?_;refine dQ [10] [64] iB ?_;refine dC [2] [] ?_
   refine dQ [12] [64] iB ?_;refine dQ [13] [] (call_r hca rfl rfl (arg_e arg_nil) (.inl rfl) (fun _ => rfl)) ?_;refine dC [2] [] ?_;refine dQ [15] [64] iB ?_;refine dQ [16] [] (call_r hcd rfl rfl (arg_e arg_nil) (.inl rfl) (fun _ => rfl)) ?_
   refine dQ [9, 11, 14, 17] [] iS ?_;refine dreg_w [] [] rfl (step_C tab_ok (fun K hk => hk)) ?_;refine dreg_s [6, 18] [184] (store_row tab_ok rfl rfl rfl ⟨_, ⟨rfl, rfl, rfl⟩, rfl⟩ rfl) ?_
   refine dreg_end (by kernel_rfl) ?_;refine seq_n ?_;refine qR ?_;refine zD ?_
   refine rQ iB ?_;refine zP ?_;refine sR ?_;refine zD ?_
   refine zI ?_;refine wc_seq ?_;refine wc_draw (by kernel_rfl) ?_;refine dQ [3] [72] iM ?_;refine dQ [24] [] (call_r hmu rfl rfl (arg_e arg_nil) (.inl rfl) (fun _ => rfl)) ?_
   refine dC [25] [] ?_;refine dC [26] [] ?_;refine dreg_onq [27, 2] [] rfl rfl rfl rfl (step_C tab_ok (fun K hk => hk)) ?_;refine dreg_onq [27, 28] [64] rfl rfl rfl rfl (load_box tab_ok rfl rfl ⟨_, rfl, rfl⟩ rfl) ?_
   refine dreg_onq [27, 3] [] rfl rfl rfl rfl (step_C tab_ok (fun K hk => hk)) ?_;refine dreg_onq [27, 30] [] rfl rfl rfl rfl (step_C tab_ok (fun K hk => hk)) ?_;refine dreg_onq [27, 31] [72] rfl rfl rfl rfl (load_box tab_ok rfl rfl ⟨_, rfl, rfl⟩ rfl) ?_
   refine dreg_onq [27, 29, 32] [] rfl rfl rfl rfl (index_arr tab_ok rfl rfl rfl rfl rfl hi0 hx) ?_;refine dreg_onq [27, 33] [] rfl rfl rfl rfl (load_i tab_ok rfl rfl) ?_
   refine dreg_onq [27, 3] [] rfl rfl rfl rfl (step_C tab_ok (fun K hk => hk)) ?_;refine dreg_onq [27, 35] [72] rfl rfl rfl rfl (load_box tab_ok rfl rfl ⟨_, rfl, rfl⟩ rfl) ?_
   refine dreg_onq [27, 34, 36] [] rfl rfl rfl rfl (neq_data rfl rfl rfl rfl (by kernel_rfl) (by decide) (block_eq x o.value)) ?_;refine dQ [27, 37] [] iU ?_;refine dreg_end (by kernel_rfl) ?_
   refine seq_n ?_;refine wT ?_;refine sR ?_;refine rQ iM ?_;refine rW ?_;refine rC ?_;refine zT ?_;refine zB ?_
   exact ⟨trivial, _, rfl, [], lf⟩
theorem rhappen3 (s : RS) (o : HOp) (h : HapOk s o) (h3 : o.op.kind = 3) : FnIs Try.prog 52 [.d (encRS s), .d (encOpn o)] [] (hapE (hapR s o)) [] := by
 have hca := copied_is s.arr h.al
 have hcd := copied_is s.dur h.dl
 have k1 : decide (o.op.kind = 1) = false := dF (by omega)
 have k2 : decide (o.op.kind = 2) = false := dF (by omega)
 have k3 : decide (o.op.kind = 3) = true := dT h3
 refine fnIs_of tab_ok Try.func52 rfl rfl rfl ?_
 rw [hapR, if_neg (by omega), if_neg (by omega)]
 refine sR ?_;iterate 3 refine rN ?_
 refine rC ?_;refine nQ ?_;refine wc_draw (by kernel_rfl) ?_;refine dC [2] [] ?_;refine dQ [8] [64] iB ?_;refine dC [2] [] ?_;refine dQ [10] [64] iB ?_;refine dC [2] [] ?_
 refine dQ [12] [64] iB ?_;refine dQ [13] [] (call_r hca rfl rfl (arg_e arg_nil) (.inl rfl) (fun _ => rfl)) ?_;refine dC [2] [] ?_;refine dQ [15] [64] iB ?_;refine dQ [16] [] (call_r hcd rfl rfl (arg_e arg_nil) (.inl rfl) (fun _ => rfl)) ?_
 refine dQ [9, 11, 14, 17] [] iS ?_;refine dreg_w [] [] rfl (step_C tab_ok (fun K hk => hk)) ?_;refine dreg_s [6, 18] [184] (store_row tab_ok rfl rfl rfl ⟨_, ⟨rfl, rfl, rfl⟩, rfl⟩ rfl) ?_
 refine dreg_end (by kernel_rfl) ?_;refine seq_n ?_;refine qR ?_;refine zD ?_
 refine rQ iB ?_;refine zP ?_;refine sR ?_;refine zD ?_
 refine zG ?_;refine sR ?_;refine zD ?_
 refine zG ?_;refine sR ?_;refine zD ?_
 refine zI ?_;refine wc_region ?_;refine rC ?_;refine rQ iB ?_;refine rQ (call_r hca rfl rfl (arg_e arg_nil) (.inl rfl) (fun _ => rfl)) ?_;refine rC ?_
 refine rX ?_;refine reg_nil ?_;refine zC ?_;refine sR ?_;refine rQ iM ?_;refine rW ?_;refine rC ?_;refine zT ?_
 exact ⟨trivial, _, rfl, [], lf⟩
abbrev outRow (s : RS) (n : Nat) : Row := .box 100 (.acons (.d (i6 s.era)) (.acons (.d (encIs s.taken)) (.acons (.own n 0 s.arr.length 32 none) (.acons (.d (encBs s.dur)) (.d .nil)))))
theorem rhappen2 (s : RS) (o : HOp) (h : HapOk s o) (h2 : o.op.kind = 2) : FnIs Try.prog 52 [.d (encRS s), .d (encOpn o)] [] (.tup (.acons (.acons (.d (i6 s.era)) (.acons (.d (encIs s.taken)) (.acons (.own 64 0 s.arr.length 32 none) (.acons (.d (encBs s.dur)) (.d .nil))))) (.acons (r01d true) .anil))) [(64, bsRow (s.arr.set o.op.index.toNat o.op.data))] := by
 have hca := copied_own s.arr h.al
 have hcd := copied_is s.dur h.dl
 have k1 : decide (o.op.kind = 1) = false := dF (by omega)
 have k2 : decide (o.op.kind = 2) = true := dT h2
 have k3 : decide (o.op.kind = 3) = false := dF (by omega)
 obtain ⟨hi0, hi1⟩ := h.ix (.inr h2)
 have hdl := h.dt h2
 obtain ⟨x, hx⟩ : ∃ x, s.arr[o.op.index.toNat]? = some x := ⟨_, List.getElem?_eq_getElem (by omega)⟩
 have hxl : x.length = 32 := h.pg x (List.mem_of_getElem? hx)
 have hset0 : s.arr = s.arr.set o.op.index.toNat (o.op.data.take 0 ++ x.drop 0) := by
  rw [List.take_zero, List.nil_append, List.drop_zero]
  exact (set_same hx).symm
 refine fnIs_of tab_ok Try.func52 rfl rfl rfl ?_;refine sR ?_;iterate 3 refine rN ?_
 refine rC ?_;refine nQ ?_;refine wc_draw (by kernel_rfl) ?_;refine dC [2] [] ?_;refine dQ [8] [64] iB ?_;refine dC [2] [] ?_;refine dQ [10] [64] iB ?_;refine dC [2] [] ?_
 refine dQ [12] [64] iB ?_;refine dreg_w [13] [] rfl (call_h [] hca rfl rfl rfl (arg_e arg_nil) trivial rfl rfl (.inl rfl) rfl rfl) ?_;refine dC [2] [] ?_;refine dQ [15] [64] iB ?_
 refine dQ [16] [] (call_r hcd rfl rfl (arg_e arg_nil) (.inl rfl) (fun _ => rfl)) ?_;refine dQ [9, 11, 14, 17] [144] iS ?_;refine dreg_w [] [] rfl (step_C tab_ok (fun K hk => hk)) ?_
 refine dreg_s [6, 18] [184] (store_row tab_ok rfl rfl rfl ⟨_, ⟨rfl, rfl, rfl⟩, rfl⟩ rfl) ?_;refine dreg_end (by kernel_rfl) ?_;refine seq_n ?_;refine qR ?_;refine zD ?_
 refine rQ iB ?_;refine zP ?_;refine sR ?_;refine zD ?_
 refine zG ?_;refine sR ?_;refine zD ?_
 refine zI ?_;refine sR ?_;refine rC ?_;refine zP ?_
 refine wc_inv (fun k : Nat => ⟨[(7, .int .i64 k), (6, .ptr 66 []), (4, .ptr 67 []), (3, .ptr 65 []), (2, .ptr 64 [])], [(64, some (.box 100 (.d (encRS s)))), (65, some (opBox o)), (66, some (outRow s 68)), (67, some (.box 100 (.d r100.zero))), (68, some (bsRow (s.arr.set o.op.index.toNat (o.op.data.take k ++ x.drop k))))], 72, Try.f52.ntmps, 64⟩) (fun k => k ≤ 32) (fun k => 32 - k) 0 [(64, some _), (65, some _), (66, some _), (67, some _), (68, some _)] (Nat.zero_le _)
  (lg zh ⟨zR, zR, zR, zR, ⟨rfl, rfl, _, rfl, RowLe.of_eq (congrArg bsRow hset0)⟩, trivial⟩) ?_
 intro k hk
 refine wc_of ?_
 by_cases hlt : k < 32
 ·have d5 : decide ((k : Int) < 32) = true := dT (by omega)
  obtain ⟨y, hy⟩ : ∃ y, o.op.data[k]? = some y := ⟨_, List.getElem?_eq_getElem (by omega)⟩
  obtain ⟨z, hz⟩ : ∃ z, x[k]? = some z := ⟨_, List.getElem?_eq_getElem (by omega)⟩
  have hbl : (byI o.op.data).length = o.op.data.length := byI_len _
  have hy2 : (byI o.op.data)[((k : Int)).toNat]? = some ((y.toNat : Nat) : Int) := by rw [Int.toNat_natCast]; exact byI_get hy
  obtain ⟨e0, he0⟩ : ∃ e0 : Int, ((z.toNat : Nat) : Int) = e0 := ⟨_, rfl⟩
  have htl : (o.op.data.take k).length = k := by rw [List.length_take]; omega
  have hgm : (o.op.data.take k ++ x.drop k)[k]? = some z := by rw [List.getElem?_append_right (by omega), htl, Nat.sub_self, List.getElem?_drop, Nat.add_zero]; exact hz
  have hgb : (byI (o.op.data.take k ++ x.drop k))[((k : Int)).toNat]? = some e0 := by rw [Int.toNat_natCast, ← he0]; exact byI_get hgm
  have hset : (byI (o.op.data.take k ++ x.drop k)).set ((k : Int)).toNat ((y.toNat : Nat) : Int) = byI (o.op.data.take (k + 1) ++ x.drop (k + 1)) := by
   rw [Int.toNat_natCast, byI, byI, ← List.map_set, List.set_append_right _ _ (by omega), htl, Nat.sub_self, List.drop_eq_getElem_cons (by omega : k < x.length), List.set_cons_zero, List.take_add_one, hy]
   simp
  have hga : (s.arr.set o.op.index.toNat (o.op.data.take k ++ x.drop k))[o.op.index.toNat]? = some (o.op.data.take k ++ x.drop k) := by rw [List.getElem?_set_self (by omega)]
  have hss : (s.arr.set o.op.index.toNat (o.op.data.take k ++ x.drop k)).set o.op.index.toNat (o.op.data.take (k + 1) ++ x.drop (k + 1)) = s.arr.set o.op.index.toNat (o.op.data.take (k + 1) ++ x.drop (k + 1)) := List.set_set ..
  refine qR ?_;refine zD ?_
  refine zI ?_;refine zQ ?_;refine wc_block ?_;refine wc_draw (by kernel_rfl) ?_;refine dC [6] [] ?_;refine dQ [46] [66] iM ?_;refine dC [3] [] ?_
  refine dC [48] [] ?_;refine dQ [49] [65] iB ?_;refine dC [7] [] ?_;refine dC [3] [] ?_;refine dC [52] [] ?_;refine dQ [53] [65] iB ?_;refine dC [7] [] ?_;refine dQ [54, 55] [] (index_arr tab_ok rfl rfl rfl rfl rfl (by omega) hy2) ?_
  refine dQ [56] [] iL ?_;refine dQ [47, 50] [] (index_own tab_ok rfl rfl rfl rfl rfl hi0 hi1) ?_;refine dQ [58, 51] [] (step_C tab_ok (fun K hk => ⟨by omega, by omega, hk⟩)) ?_
  refine dreg_s [59, 57] [68] (store_row tab_ok rfl rfl rfl ⟨rfl, _, o.op.data.take (k + 1) ++ x.drop (k + 1), hga, ⟨rfl, e0, ((y.toNat : Nat) : Int), hgb, ⟨rfl, rfl, rfl⟩, congrArg (D.vec 32 1 encU8) hset.symm⟩, rfl⟩ rfl) ?_
  refine dreg_end (by kernel_rfl) ?_;refine zC ?_;refine wc_region ?_;refine rC ?_;refine rQ iD ?_;refine rC ?_;refine reg_nil ?_
  exact loop_n (k + 1) [(64, some _), (65, some _), (66, some _), (67, some _), (68, some _)] hlt (by omega) (lg zh ⟨zR, zR, zR, zR, ⟨rfl, rfl, _, rfl, RowLe.of_eq (congrArg bsRow hss)⟩, trivial⟩)
 ·have d5 : decide ((k : Int) < 32) = false := dF (by omega)
  have hfin : o.op.data.take k ++ x.drop k = o.op.data := by rw [List.take_of_length_le (by omega), List.drop_eq_nil_of_le (by omega), List.append_nil]
  rw [hfin]
  refine qR ?_;refine zD ?_
  refine zG ?_;refine wc_exit ?_;refine seq_x ?_;refine loop_x ?_;refine blk_x ?_;refine zC ?_;refine sR ?_;refine rQ iM ?_;refine rW ?_
  refine rC ?_;refine zT ?_
  exact ⟨trivial, _, rfl, [(64, some 68)], lg zV ⟨zR, trivial⟩⟩
theorem rhappen_is (s : RS) (o : HOp) (h : HapOk s o) : FnIs Try.prog 52 [.d (encRS s), .d (encOpn o)] [] (hapE (hapR s o)) [] := by
 rcases h.kd with k | k | k
 ·exact rhappen1 s o h k
 ·have : hapR s o = ({ s with arr := s.arr.set o.op.index.toNat o.op.data }, true) := by rw [hapR, if_neg (by omega), if_pos k]
  rw [this]
  exact (rhappen2 s o h k).freeze_out 64 _ rfl (Frz.tup (.cons (Frz.dcons (.refl _) (Frz.dcons (.refl _) (Frz.dcons (Frz.own (by rw [List.length_set])) (Frz.dcons (.refl _) (.refl _))))) (.cons (.refl _) .nil))) trivial
 ·exact rhappen3 s o h k
def crashTo (e : Int) (s : RS) : RS := if s.era < e then ⟨e, [], s.dur, s.dur⟩ else s
def befA (l : List HOp) (o : HOp) (j : Int) : Bool := match l[j.toNat]? with
 | some p => befB o p
 | none => false
def raccL (b : Int) (l : List HOp) : List Int → List Int → RS → Int
 | [], _, _ => 0
 | i :: os, pre, s => if i < 0 then 1 else match l[i.toNat]? with
  | none => 1
  | some o => if pre.any (fun y => decide (y = i)) = true then 1 else if mayB o b = false then 1 else if pre.any (befA l o) = true then 13
   else if (hapR (crashTo o.era s) o).2 = false then 15 else raccL b l os (pre ++ [i]) (hapR (crashTo o.era s) o).1
def rmisB (ord : List Int) : List HOp → Nat → Bool
 | [], _ => false
 | o :: l, k => (mustB o && !ord.any (fun y => decide (y = (k : Int)))) || rmisB ord l (k + 1)
def rAccS (b : Int) (n : Nat) (l : List HOp) (order : List Int) : Int :=
 if raccL b l order [] (first0R n) = 0 then (if rmisB order l 0 = true then 15 else 0) else raccL b l order [] (first0R n)
structure RSOk (n : Nat) (s : RS) : Prop where
 al : s.arr.length = n
 dl : s.dur.length = n
 ap : ∀ p ∈ s.arr, p.length = 32
 dp : ∀ p ∈ s.dur, p.length = 32
 e0 : 0 ≤ s.era
 e1 : s.era ≤ 1000000
theorem RSOk.first (n : Nat) : RSOk n (first0R n) :=
 ⟨List.length_replicate, List.length_replicate, fun p hp => by rw [(List.mem_replicate.1 hp).2]; rfl, fun p hp => by rw [(List.mem_replicate.1 hp).2]; rfl, Int.le_refl _, by show (0 : Int) ≤ 1000000; decide⟩
theorem RSOk.crash {n : Nat} {s : RS} (h : RSOk n s) (he : s.era < 1000000) : RSOk n (crashR s) := ⟨h.dl, h.dl, h.dp, h.dp, by have := h.e0; show 0 ≤ s.era + 1; omega, by show s.era + 1 ≤ 1000000; omega⟩
theorem RSOk.to {n : Nat} {s : RS} (h : RSOk n s) {e : Int} (he : e ≤ 1000000) : RSOk n (crashTo e s) := by
 unfold crashTo
 split
 ·exact ⟨h.dl, h.dl, h.dp, h.dp, by have := h.e0; show 0 ≤ e; omega, he⟩
 ·exact h
theorem may_out {o : HOp} {n : Nat} (h : mayB o n = true) : (o.op.kind = 1 ∨ o.op.kind = 2 ∨ o.op.kind = 3) ∧ (o.op.kind = 1 ∨ o.op.kind = 2 → 0 ≤ o.op.index ∧ o.op.index < n) ∧ (o.op.kind = 2 → o.op.data.length = 32) := by
 unfold mayB badO outO at h
 by_cases k1 : o.op.kind = 1
 ·simp [k1] at h
  exact ⟨.inl k1, fun _ => by omega, fun k => by omega⟩
 ·by_cases k2 : o.op.kind = 2
  ·simp [k2] at h
   exact ⟨.inr (.inl k2), fun _ => by omega, fun _ => h.1.2⟩
  ·simp [k1, k2] at h
   exact ⟨.inr (.inr h.1), fun k => by omega, fun k => by omega⟩
theorem RSOk.hap {n : Nat} (hn : n ≤ 1048576) {s : RS} (h : RSOk n s) {o : HOp} (hm : mayB o n = true) : HapOk s o ∧ RSOk n (hapR s o).1 := by
 obtain ⟨m1, m2, m3⟩ := may_out hm
 refine ⟨⟨by rw [h.al]; exact hn, by rw [h.dl]; exact hn, h.ap, m1, fun k => by rw [h.al]; exact m2 k, m3⟩, ?_⟩
 unfold hapR
 split
 ·exact h
 ·split
  ·rename_i k2
   exact ⟨by simp only [List.length_set]; exact h.al, h.dl, fun p hp => by
    rcases List.mem_or_eq_of_mem_set hp with hp | rfl
    ·exact h.ap p hp
    ·exact m3 k2, h.dp, h.e0, h.e1⟩
  ·exact ⟨h.al, h.al, h.ap, h.ap, h.e0, h.e1⟩
theorem raccL_step {b : Int} {l : List HOp} {order : List Int} {k : Nat} {i : Int} (h : order[k]? = some i) (pre : List Int) (s : RS) : raccL b l (order.drop k) pre s = raccL b l (i :: order.drop (k + 1)) pre s := by
 have hlt := (List.getElem?_eq_some_iff.1 h).1
 rw [List.drop_eq_getElem_cons hlt, (List.getElem?_eq_some_iff.1 h).2]
theorem rmis_step {ord : List Int} {l : List HOp} {k : Nat} {o : HOp} (h : l[k]? = some o) : rmisB ord (l.drop k) k = ((mustB o && !ord.any (fun y => decide (y = (k : Int)))) || rmisB ord (l.drop (k + 1)) (k + 1)) := by
 have hlt := (List.getElem?_eq_some_iff.1 h).1
 rw [List.drop_eq_getElem_cons hlt, (List.getElem?_eq_some_iff.1 h).2, rmisB]
abbrev rsRow (s : RS) : Row := .box 100 (.d (encRS s))
theorem raccept_go (h : List HEv) (n : Nat) (order : List Int) (l : List HOp) (hop : FnIs Try.prog 26 [.d (encH h)] [] (.d (encOps l)) []) (hL : l.length ≤ 1000000) (hn : n ≤ 1000000) (hO : order.length ≤ 1000000) (hE : ∀ o ∈ l, 0 ≤ o.era ∧ o.era ≤ 1000000) : FnIs Try.prog 19 [.d (encH h), .int .i64 n, .d (encIs order)] [] (.d (i6 (rAccS n n l order))) [] := by
 have hfi := rfirst_is n (by omega)
 refine fnIs_of tab_ok Try.func19 rfl rfl rfl ?_
 have fin : ∀ v, v ≠ 0 → raccL n l order [] (first0R n) = v → rAccS n n l order = v := fun v hv e => by rw [rAccS, e, if_neg hv]
 have fin0 : ∀ c, raccL n l order [] (first0R n) = 0 → rmisB order l 0 = c → rAccS n n l order = if c = true then 15 else 0 := fun c e e2 => by rw [rAccS, e, if_pos rfl, e2]
 refine sR ?_;refine rC ?_;refine nR ?_;refine rC ?_;refine rQ (call_r hop rfl rfl (arg_e arg_nil) (.inl rfl) (fun _ => rfl)) ?_;refine rC ?_;refine nR ?_;refine rC ?_
 refine rQ (call_r hfi rfl rfl (arg_e arg_nil) (.inl rfl) (fun _ => rfl)) ?_;refine rN ?_;refine rW ?_;refine zW ?_;refine rC ?_;refine zP ?_
 refine wc_inv (fun q : Nat × RS => ⟨[(9, .int .i64 q.1), (8, .ptr 64 []), (7, .d (encOps l)), (2, .d (encIs order)), (1, .int .i64 n)], [(64, some (rsRow q.2))], 72, Try.f19.ntmps, 64⟩) (fun q => q.1 ≤ order.length ∧ RSOk n q.2 ∧ (∀ y ∈ order.take q.1, 0 ≤ y ∧ y < l.length) ∧ raccL n l (order.drop q.1) (order.take q.1) q.2 = raccL n l order [] (first0R n)) (fun q => order.length - q.1) (0, first0R n) [(64, some _)] ⟨Nat.zero_le _, .first n, fun y hy => (by simp at hy), rfl⟩
  (lg zh ⟨zR, trivial⟩) ?_
 rintro ⟨k, s⟩ ⟨hk, hs, hr, hg⟩
 simp only at hk hs hr hg
 refine wc_of ?_
 by_cases hlt : k < order.length
 ·have d1 : decide ((k : Int) < (order.length : Int)) = true := dT (by omega)
  obtain ⟨i, hi⟩ : ∃ i, order[k]? = some i := ⟨_, List.getElem?_eq_getElem hlt⟩
  have hi2 : order[((k : Int)).toNat]? = some i := by rw [Int.toNat_natCast]; exact hi
  rw [raccL_step hi, raccL] at hg
  have htk : order.take (k + 1) = order.take k ++ [i] := by rw [List.take_add_one, hi]; rfl
  have htl : (order.take k).length = k := by rw [List.length_take]; omega
  refine qR ?_;refine zD ?_
  refine rQ iE ?_;refine rC ?_;refine zI ?_;refine zQ ?_;refine zS ?_;refine zD ?_
  refine rQ (index_arr tab_ok rfl rfl rfl rfl rfl (by omega) hi2) ?_;refine rQ iL ?_;refine rC ?_;refine zW ?_;refine zU ?_
  by_cases h1 : i < 0
  ·have e1 : decide (i < 0) = true := dT h1
   rw [if_pos h1] at hg
   rw [fin 1 (by decide) hg.symm]
   iterate 4 refine rS ?_
   refine rQ iT ?_;refine rC ?_;iterate 6 refine rT ?_
   refine rQ iU ?_;refine rC ?_;iterate 7 refine rT ?_
   refine rQ iU ?_;refine zO ?_;refine sR ?_;refine rC ?_;refine zT ?_;refine seq_r ?_;refine zB ?_;refine loop_r ?_
   refine zB ?_
   exact ⟨trivial, [], lf⟩
  have e1 : decide (i < 0) = false := dF h1
  have hi0 : 0 ≤ i := by omega
  rw [if_neg h1] at hg
  by_cases h2 : (l.length : Int) ≤ i
  ·have e2 : decide ((l.length : Int) ≤ i) = true := dT h2
   rw [List.getElem?_eq_none (by omega)] at hg
   simp only at hg
   rw [fin 1 (by decide) hg.symm]
   refine rO ?_;refine rC ?_;refine rO ?_;refine rC ?_;refine rO ?_;refine rQ iE ?_;refine rO ?_;refine rC ?_;refine rQ iF ?_;refine rC ?_;iterate 6 refine rS ?_
   refine rQ iT ?_;refine rC ?_;iterate 7 refine rT ?_
   refine rQ iU ?_;refine zO ?_;refine sR ?_;refine rC ?_;refine zT ?_;refine seq_r ?_;refine zB ?_;refine loop_r ?_
   refine zB ?_
   exact ⟨trivial, [], lf⟩
  have e2 : decide ((l.length : Int) ≤ i) = false := dF h2
  obtain ⟨o, ho⟩ : ∃ o, l[i.toNat]? = some o := ⟨_, List.getElem?_eq_getElem (by omega)⟩
  rw [ho] at hg
  simp only at hg
  obtain ⟨he0, he1⟩ := hE o (List.mem_of_getElem? ho)
  have hha := rhas_is (order.take k) i (by omega)
  have hma := rmay_is o n
  cases h3 : (order.take k).any (fun y => decide (y = i)) with
  | true =>
   rw [if_pos h3] at hg
   rw [h3] at hha
   rw [fin 1 (by decide) hg.symm]
   refine rO ?_;refine rC ?_;refine rO ?_;refine rC ?_;refine rO ?_;refine rQ iE ?_;refine rO ?_;refine rC ?_;refine rQ iF ?_;refine rC ?_;refine rO ?_;refine rC ?_
   refine rO ?_;refine rC ?_;refine rO ?_;refine rQ (slice_to (m := (k : Int)) tab_ok rfl rfl rfl rfl (by omega) (by omega)) ?_;refine rO ?_;refine rC ?_;refine rO ?_
   refine rQ (call_r hha rfl rfl (arg_e (arg_e arg_nil)) (.inl rfl) (fun _ => rfl)) ?_;refine rO ?_;refine rC ?_;refine rQ iF ?_;refine rC ?_;iterate 7 refine rT ?_
   refine rQ iU ?_;refine zO ?_;refine sR ?_;refine rC ?_;refine zT ?_;refine seq_r ?_;refine zB ?_;refine loop_r ?_
   refine zB ?_
   exact ⟨trivial, [], lf⟩
  | false =>
  rw [if_neg (by rw [h3]; decide)] at hg
  rw [h3] at hha
  cases h4 : mayB o n with
  | false =>
   rw [if_pos h4] at hg
   rw [h4] at hma
   rw [fin 1 (by decide) hg.symm]
   refine rO ?_;refine rC ?_;refine rO ?_;refine rC ?_;refine rO ?_;refine rQ iE ?_;refine rO ?_;refine rC ?_;refine rQ iF ?_;refine rC ?_;refine rO ?_;refine rC ?_
   refine rO ?_;refine rC ?_;refine rO ?_;refine rQ (slice_to (m := (k : Int)) tab_ok rfl rfl rfl rfl (by omega) (by omega)) ?_;refine rO ?_;refine rC ?_;refine rO ?_
   refine rQ (call_r hha rfl rfl (arg_e (arg_e arg_nil)) (.inl rfl) (fun _ => rfl)) ?_;refine rO ?_;refine rC ?_;refine rQ iF ?_;refine rC ?_;refine rP ?_;refine rC ?_
   refine rP ?_;refine rC ?_;refine rP ?_;refine rQ (index_arr tab_ok rfl rfl rfl rfl rfl hi0 ho) ?_;refine rP ?_;refine rQ iL ?_;refine rP ?_;refine rC ?_;refine rP ?_
   refine rQ (call_r hma rfl rfl (arg_e (arg_e arg_nil)) (.inl rfl) (fun _ => rfl)) ?_;refine rP ?_;refine rC ?_;refine rQ iG ?_;refine zO ?_;refine sR ?_
   refine rC ?_;refine zT ?_;refine seq_r ?_;refine zB ?_;refine loop_r ?_;refine zB ?_
   exact ⟨trivial, [], lf⟩
  | true =>
  rw [if_neg (by rw [h4]; decide)] at hg
  rw [h4] at hma
  refine rO ?_;refine rC ?_;refine rO ?_;refine rC ?_;refine rO ?_;refine rQ iE ?_;refine rO ?_;refine rC ?_;refine rQ iF ?_;refine rC ?_;refine rO ?_;refine rC ?_
  refine rO ?_;refine rC ?_;refine rO ?_;refine rQ (slice_to (m := (k : Int)) tab_ok rfl rfl rfl rfl (by omega) (by omega)) ?_;refine rO ?_;refine rC ?_;refine rO ?_
  refine rQ (call_r hha rfl rfl (arg_e (arg_e arg_nil)) (.inl rfl) (fun _ => rfl)) ?_;refine rO ?_;refine rC ?_;refine rQ iF ?_;refine rC ?_;refine rP ?_;refine rC ?_
  refine rP ?_;refine rC ?_;refine rP ?_;refine rQ (index_arr tab_ok rfl rfl rfl rfl rfl hi0 ho) ?_;refine rP ?_;refine rQ iL ?_;refine rP ?_;refine rC ?_;refine rP ?_
  refine rQ (call_r hma rfl rfl (arg_e (arg_e arg_nil)) (.inl rfl) (fun _ => rfl)) ?_;refine rP ?_;refine rC ?_;refine rQ iG ?_;refine zJ ?_;refine kS ?_
  refine qR ?_;refine rC ?_;refine zP ?_
  refine wc_inv (fun j : Nat => ⟨[(11, .int .i64 j), (10, .int .i64 i), (9, .int .i64 k), (8, .ptr 64 []), (7, .d (encOps l)), (2, .d (encIs order)), (1, .int .i64 n)], [(64, some (rsRow s))], 72, Try.f19.ntmps, 64⟩) (fun j => j ≤ k ∧ ((order.take k).drop j).any (befA l o) = (order.take k).any (befA l o)) (fun j => k - j) 0 [(64, some _)] ⟨Nat.zero_le _, rfl⟩
   (lg zf ⟨zR, trivial⟩) ?_
  rintro j ⟨hj, hja⟩
  refine wc_of ?_
  by_cases hjt : j < k
  ·have d2 : decide ((j : Int) < (k : Int)) = true := dT (by omega)
   obtain ⟨y, hy⟩ : ∃ y, order[j]? = some y := ⟨_, List.getElem?_eq_getElem (by omega)⟩
   have hy2 : order[((j : Int)).toNat]? = some y := by rw [Int.toNat_natCast]; exact hy
   have hyt : (order.take k)[j]? = some y := by rw [List.getElem?_take_of_lt hjt]; exact hy
   obtain ⟨hy0, hyl⟩ := hr y (List.mem_of_getElem? hyt)
   obtain ⟨p, hp⟩ : ∃ p, l[y.toNat]? = some p := ⟨_, List.getElem?_eq_getElem (by omega)⟩
   have hba : befA l o y = befB o p := by rw [befA, hp]
   rw [any_drop _ hyt, hba] at hja
   have hbe := rbefore_is o p
   cases hb : befB o p with
   | true =>
    rw [hb] at hbe hja
    rw [Bool.true_or] at hja
    rw [if_pos hja.symm] at hg
    rw [fin 13 (by decide) hg.symm]
    refine qR ?_;refine zU ?_
    refine zI ?_;refine zQ ?_;refine wc_block ?_;refine wc_seq ?_;refine wc_draw (by kernel_rfl) ?_;refine dC [7] [] ?_;refine dC [10] [] ?_
    refine dQ [59, 60] [] (index_arr tab_ok rfl rfl rfl rfl rfl hi0 ho) ?_;refine dQ [61] [] iL ?_;refine dC [7] [] ?_;refine dC [2] [] ?_;refine dC [11] [] ?_;refine dQ [64, 65] [] (index_arr tab_ok rfl rfl rfl rfl rfl (by omega) hy2) ?_
    refine dQ [66] [] iL ?_;refine dQ [63, 67] [] (index_arr tab_ok rfl rfl rfl rfl rfl hy0 hp) ?_;refine dQ [68] [] iL ?_;refine dQ [62, 69] [] (call_r hbe rfl rfl (arg_e (arg_e arg_nil)) (.inl rfl) (fun _ => rfl)) ?_
    refine dC [70] [] ?_;refine dreg_end (by kernel_rfl) ?_;refine seq_n ?_;refine wV ?_;refine sR ?_;refine rC ?_;refine zT ?_;refine zB ?_
    refine loop_r ?_;refine zB ?_;refine zB ?_;refine loop_r ?_;refine zB ?_
    exact ⟨trivial, [], lf⟩
   | false =>
    rw [hb] at hbe hja
    rw [Bool.false_or] at hja
    refine qR ?_;refine zU ?_
    refine zI ?_;refine zQ ?_;refine wc_block ?_;refine wc_seq ?_;refine wc_draw (by kernel_rfl) ?_;refine dC [7] [] ?_;refine dC [10] [] ?_
    refine dQ [59, 60] [] (index_arr tab_ok rfl rfl rfl rfl rfl hi0 ho) ?_;refine dQ [61] [] iL ?_;refine dC [7] [] ?_;refine dC [2] [] ?_;refine dC [11] [] ?_;refine dQ [64, 65] [] (index_arr tab_ok rfl rfl rfl rfl rfl (by omega) hy2) ?_
    refine dQ [66] [] iL ?_;refine dQ [63, 67] [] (index_arr tab_ok rfl rfl rfl rfl rfl hy0 hp) ?_;refine dQ [68] [] iL ?_;refine dQ [62, 69] [] (call_r hbe rfl rfl (arg_e (arg_e arg_nil)) (.inl rfl) (fun _ => rfl)) ?_
    refine dC [70] [] ?_;refine dreg_end (by kernel_rfl) ?_;refine seq_n ?_;refine wG ?_;refine wc_skip ?_;refine zC ?_;refine wc_region ?_;refine rC ?_
    refine rQ iD ?_;refine rC ?_;refine reg_nil ?_
    exact loop_n (j + 1) [(64, some _)] ⟨hjt, hja⟩ (by omega) (lg zf ⟨zR, trivial⟩)
  ·have d2 : decide ((j : Int) < (k : Int)) = false := dF (by omega)
   rw [List.drop_eq_nil_of_le (by omega), List.any_nil] at hja
   rw [if_neg (by rw [← hja]; decide)] at hg
   refine qR ?_;refine zU ?_
   refine zG ?_;refine zX ?_;refine wc_seq ?_;refine wc_block ?_
   refine wc_inv (fun q : RS => ⟨[(10, .int .i64 i), (9, .int .i64 k), (8, .ptr 64 []), (7, .d (encOps l)), (2, .d (encIs order)), (1, .int .i64 n)], [(64, some (rsRow q))], 72, Try.f19.ntmps, 64⟩) (fun q => RSOk n q ∧ crashTo o.era q = crashTo o.era s) (fun q => (o.era - q.era).toNat) s [(64, some _)] ⟨hs, rfl⟩
    (lg zg ⟨zR, trivial⟩) ?_
   rintro q ⟨hq, hqe⟩
   refine wc_of ?_
   by_cases hqt : q.era < o.era
   ·have d3 : decide (q.era < o.era) = true := dT hqt
    have hq0 := hq.e0
    have hcr := rcrashed_is q (by rw [hq.dl]; omega) (wrap_i64 (by omega) (by omega))
    have hnx : crashTo o.era (crashR q) = crashTo o.era s := by
     rw [← hqe]
     unfold crashTo
     rw [if_pos hqt]
     by_cases hc : (crashR q).era < o.era
     ·rw [if_pos hc]; rfl
     ·rw [if_neg hc]
      have : q.era + 1 = o.era := by have : ¬ q.era + 1 < o.era := hc; omega
      rw [crashR, this]
    iterate 2 refine wc_seq ?_
    refine wc_draw (by kernel_rfl) ?_;refine dC [8] [] ?_;refine dQ [72] [64] iB ?_;refine dC [7] [] ?_;refine dC [10] [] ?_;refine dQ [74, 75] [] (index_arr tab_ok rfl rfl rfl rfl rfl hi0 ho) ?_
    refine dC [76] [] ?_;refine dQ [77] [] iL ?_;refine dC [73, 78] [] ?_;refine dreg_end (by kernel_rfl) ?_;refine seq_n ?_;refine wT ?_;refine kS ?_;refine wc_block ?_
    refine wc_region ?_;refine rQ iM ?_;refine rQ (call_r hcr rfl rfl (arg_e arg_nil) (.inl rfl) (fun _ => rfl)) ?_;refine rW ?_;refine reg_nil ?_;refine blk_n ?_
    exact loop_n (crashR q) [(64, some _)] ⟨hq.crash (by omega), hnx⟩ (by show (o.era - (q.era + 1)).toNat < (o.era - q.era).toNat; omega) (lg zg ⟨zR, trivial⟩)
   ·have d3 : decide (q.era < o.era) = false := dF hqt
    have hqq : crashTo o.era s = q := by rw [← hqe, crashTo, if_neg hqt]
    rw [hqq] at hg
    obtain ⟨hho, hso⟩ := hq.hap (by omega) h4
    have hhp := rhappen_is q o hho
    obtain ⟨⟨u, f⟩, hu⟩ : ∃ r, hapR q o = r := ⟨_, rfl⟩
    rw [hu] at hhp hg hso
    cases f with
    | false =>
     rw [if_pos rfl] at hg
     rw [fin 15 (by decide) hg.symm]
     iterate 2 refine wc_seq ?_
     refine wc_draw (by kernel_rfl) ?_;refine dC [8] [] ?_;refine dQ [72] [64] iB ?_;refine dC [7] [] ?_;refine dC [10] [] ?_;refine dQ [74, 75] [] (index_arr tab_ok rfl rfl rfl rfl rfl hi0 ho) ?_
     refine dC [76] [] ?_;refine dQ [77] [] iL ?_;refine dC [73, 78] [] ?_;refine dreg_end (by kernel_rfl) ?_;refine seq_n ?_;refine wF ?_;refine wc_exit ?_;refine seq_x ?_
     refine loop_x ?_;refine blk_x ?_;refine seq_n ?_;refine wc_seq ?_;refine wc_draw (by kernel_rfl) ?_;refine dQ [8] [64] iM ?_;refine dC [7] [] ?_;refine dC [10] [] ?_
     refine dQ [84, 85] [] (index_arr tab_ok rfl rfl rfl rfl rfl hi0 ho) ?_;refine dQ [86] [] iL ?_;refine dQ [83, 87] [] (call_r hhp rfl rfl (arg_e (arg_e arg_nil)) (.inl rfl) (fun _ => rfl)) ?_
     refine dC [88] [] ?_;iterate 2 refine dC [82] [] ?_
     refine dreg_w [] [] rfl (step_C tab_ok (fun K hk => hk)) ?_;refine dreg_s [12, 89] [208] (store_row tab_ok rfl rfl rfl ⟨_, ⟨rfl, rfl, rfl⟩, rfl⟩ rfl) ?_;refine dC [90] [] ?_
     refine dreg_end (by kernel_rfl) ?_;refine seq_n ?_;refine qR ?_;refine zD ?_
     refine zO ?_;refine sR ?_;refine rC ?_;refine zT ?_;refine seq_r ?_;refine zB ?_;refine loop_r ?_;refine blk_r ?_
     refine seq_r ?_
     exact ⟨trivial, [], lf⟩
    | true =>
     rw [if_neg (by show ¬ (true = false); decide)] at hg
     iterate 2 refine wc_seq ?_
     refine wc_draw (by kernel_rfl) ?_;refine dC [8] [] ?_;refine dQ [72] [64] iB ?_;refine dC [7] [] ?_;refine dC [10] [] ?_;refine dQ [74, 75] [] (index_arr tab_ok rfl rfl rfl rfl rfl hi0 ho) ?_
     refine dC [76] [] ?_;refine dQ [77] [] iL ?_;refine dC [73, 78] [] ?_;refine dreg_end (by kernel_rfl) ?_;refine seq_n ?_;refine wF ?_;refine wc_exit ?_;refine seq_x ?_
     refine loop_x ?_;refine blk_x ?_;refine seq_n ?_;refine wc_seq ?_;refine wc_draw (by kernel_rfl) ?_;refine dQ [8] [64] iM ?_;refine dC [7] [] ?_;refine dC [10] [] ?_
     refine dQ [84, 85] [] (index_arr tab_ok rfl rfl rfl rfl rfl hi0 ho) ?_;refine dQ [86] [] iL ?_;refine dQ [83, 87] [] (call_r hhp rfl rfl (arg_e (arg_e arg_nil)) (.inl rfl) (fun _ => rfl)) ?_
     refine dC [88] [] ?_;iterate 2 refine dC [82] [] ?_
     refine dreg_w [] [] rfl (step_C tab_ok (fun K hk => hk)) ?_;refine dreg_s [12, 89] [208] (store_row tab_ok rfl rfl rfl ⟨_, ⟨rfl, rfl, rfl⟩, rfl⟩ rfl) ?_;refine dC [90] [] ?_
     refine dreg_end (by kernel_rfl) ?_;refine seq_n ?_;refine qR ?_;refine zD ?_
     refine zJ ?_;refine kS ?_;refine wc_region ?_;refine rQ iM ?_;refine rW ?_;refine reg_nil ?_;refine zC ?_;refine wc_region ?_;refine rC ?_
     refine rQ iD ?_;refine rC ?_;refine reg_nil ?_
     exact loop_n (k + 1, u) [(64, some _)] ⟨hlt, hso, fun y hy => (by
      rw [htk] at hy
      rcases List.mem_append.1 hy with hy | hy
      ·exact hr y hy
      ·obtain rfl := List.mem_singleton.1 hy
       exact ⟨hi0, by omega⟩), by simp only [htk]; exact hg⟩ (by simp only; omega) (lg zh ⟨zR, trivial⟩)
 ·have d1 : decide ((k : Int) < (order.length : Int)) = false := dF (by omega)
  rw [List.drop_eq_nil_of_le (by omega), raccL] at hg
  refine qR ?_;refine zD ?_
  refine rQ iE ?_;refine rC ?_;refine zG ?_;refine zX ?_;refine qR ?_;refine rC ?_
  refine zP ?_
  refine wc_inv (fun j : Nat => ⟨[(14, .int .i64 j), (7, .d (encOps l)), (2, .d (encIs order))], [], 72, Try.f19.ntmps, 64⟩) (fun j => j ≤ l.length ∧ rmisB order (l.drop j) j = rmisB order l 0) (fun j => l.length - j) 0 [] ⟨Nat.zero_le _, rfl⟩
   (lg zj trivial) ?_
  rintro j ⟨hj, hjm⟩
  refine wc_of ?_
  by_cases hjt : j < l.length
  ·have d2 : decide ((j : Int) < (l.length : Int)) = true := dT (by omega)
   obtain ⟨o, ho⟩ : ∃ o, l[j]? = some o := ⟨_, List.getElem?_eq_getElem hjt⟩
   have ho2 : l[((j : Int)).toNat]? = some o := by rw [Int.toNat_natCast]; exact ho
   rw [rmis_step ho] at hjm
   have hmu := rmust_is o
   have hhs := rhas_is order (j : Int) (by omega)
   cases hm : mustB o with
   | false =>
    rw [hm] at hmu hjm
    rw [Bool.false_and, Bool.false_or] at hjm
    refine qR ?_;refine zD ?_
    refine rQ iE ?_;refine rC ?_;refine zI ?_;refine zQ ?_;refine zS ?_;refine zD ?_
    refine rQ (index_arr tab_ok rfl rfl rfl rfl rfl (by omega) ho2) ?_;refine rQ iL ?_;refine rQ (call_r hmu rfl rfl (arg_e arg_nil) (.inl rfl) (fun _ => rfl)) ?_;refine zD ?_
    iterate 4 refine rT ?_
    refine rQ iG ?_;refine zJ ?_;refine wc_skip ?_;refine zC ?_;refine wc_region ?_;refine rC ?_;refine rQ iD ?_;refine rC ?_;refine reg_nil ?_
    exact loop_n (j + 1) [] ⟨hjt, hjm⟩ (by omega) (lg zj trivial)
   | true =>
    rw [hm] at hmu hjm
    cases ha : order.any (fun y => decide (y = (j : Int))) with
    | true =>
     rw [ha] at hhs hjm
     refine qR ?_;refine zD ?_
     refine rQ iE ?_;refine rC ?_;refine zI ?_;refine zQ ?_;refine zS ?_;refine zD ?_
     refine rQ (index_arr tab_ok rfl rfl rfl rfl rfl (by omega) ho2) ?_;refine rQ iL ?_;refine rQ (call_r hmu rfl rfl (arg_e arg_nil) (.inl rfl) (fun _ => rfl)) ?_;refine zD ?_
     refine rP ?_;refine rC ?_;refine rP ?_;refine rC ?_;refine rP ?_;refine rQ (call_r hhs rfl rfl (arg_e (arg_e arg_nil)) (.inl rfl) (fun _ => rfl)) ?_;refine rP ?_
     refine rC ?_;refine rQ iU ?_;refine zJ ?_;refine wc_skip ?_;refine zC ?_;refine wc_region ?_;refine rC ?_;refine rQ iD ?_;refine rC ?_
     refine reg_nil ?_
     exact loop_n (j + 1) [] ⟨hjt, hjm⟩ (by omega) (lg zj trivial)
    | false =>
     rw [ha] at hhs hjm
     rw [fin0 true hg.symm hjm.symm]
     refine qR ?_;refine zD ?_
     refine rQ iE ?_;refine rC ?_;refine zI ?_;refine zQ ?_;refine zS ?_;refine zD ?_
     refine rQ (index_arr tab_ok rfl rfl rfl rfl rfl (by omega) ho2) ?_;refine rQ iL ?_;refine rQ (call_r hmu rfl rfl (arg_e arg_nil) (.inl rfl) (fun _ => rfl)) ?_;refine zD ?_
     refine rP ?_;refine rC ?_;refine rP ?_;refine rC ?_;refine rP ?_;refine rQ (call_r hhs rfl rfl (arg_e (arg_e arg_nil)) (.inl rfl) (fun _ => rfl)) ?_;refine rP ?_
     refine rC ?_;refine rQ iU ?_;refine zO ?_;refine sR ?_;refine rC ?_;refine zT ?_;refine zB ?_;refine loop_r ?_;refine blk_r ?_
     refine seq_r ?_
     exact ⟨trivial, [], lf⟩
  ·have d2 : decide ((j : Int) < (l.length : Int)) = false := dF (by omega)
   rw [List.drop_eq_nil_of_le (by omega), rmisB] at hjm
   rw [fin0 false hg.symm hjm.symm]
   refine qR ?_;refine zD ?_
   refine rQ iE ?_;refine rC ?_;refine zG ?_;refine zX ?_;refine sR ?_;refine rC ?_
   refine zT ?_
   exact ⟨trivial, [], lf⟩
end Go.Proofs.Ytkehohfgbblokaa
namespace Go.Proofs.Ytkehohfgbblokaa
open Go.Eng Go.Plain
set_option maxHeartbeats 32000000
set_option maxRecDepth 20000
theorem opsRG_era (h : List HEv) : ∀ (n i : Nat) (out : List HOp) (era : Int), 0 ≤ era → (∀ o ∈ out, 0 ≤ o.era ∧ o.era ≤ era) → ∀ o ∈ opsRG h n i out era, 0 ≤ o.era ∧ o.era ≤ era + n
 | 0, _, out, era, h0, ho, o, hm => by
  rw [opsRG] at hm
  have := ho o hm
  omega
 | n + 1, i, out, era, h0, ho, o, hm => by
  rw [opsRG] at hm
  split at hm
  ·have := ho o hm; omega
  ·rename_i x _
   split at hm
   ·have := opsRG_era h n (i + 1) out (era + 1) (by omega) (fun y hy => by have := ho y hy; omega) o hm
    omega
   ·split at hm
    ·have := opsRG_era h n (i + 1) (out ++ [mkOp h i x out era]) era h0 (fun y hy => by
      rcases List.mem_append.1 hy with hy | hy
      ·exact ho y hy
      ·rw [List.mem_singleton.1 hy]
       have : (mkOp h i x out era).era = era := by
        unfold mkOp opAns opBase
        split <;> rfl
       omega) o hm
     omega
    ·have := opsRG_era h n (i + 1) out era h0 ho o hm
     omega
theorem opsR_era (h : List HEv) : ∀ o ∈ opsR h, 0 ≤ o.era ∧ o.era ≤ h.length := by
 intro o ho
 have := opsRG_era h h.length 0 [] 0 (Int.le_refl _) (fun _ hy => by cases hy) o ho
 omega
structure ARel (n : Nat) (l : List HOp) (tk : List Bool) (ah : List HOp) (a d : VMap) (pre : List Int) (s : RS) : Prop where
 tkl : tk.length = l.length
 tki : ∀ j, j < l.length → tk[j]? = some (pre.any fun y => decide (y = (j : Int)))
 any : ∀ o, ah.any (befB o) = pre.any (befA l o)
 late : ∀ o, lateB ah o = decide (s.era < o.era)
 ord : ∀ o : HOp, 0 ≤ o.era → ah.any (befB o) = false → s.era ≤ o.era
 av : ∀ j : Int, 0 ≤ j → j < n → getV a j = pgAt s.arr j
 dv : ∀ j : Int, 0 ≤ j → j < n → getV d j = pgAt s.dur j
 ok : RSOk n s
theorem pg_rep (n : Nat) (j : Int) : pgAt (List.replicate n zBk) j = zBk := by
 unfold pgAt
 rw [List.getElem?_replicate]
 split <;> rfl
theorem ARel.first (n : Nat) (l : List HOp) : ARel n l (List.replicate l.length false) [] [] [] [] (first0R n) :=
 ⟨List.length_replicate, fun j hj => by rw [List.getElem?_replicate, if_pos hj]; rfl, fun _ => rfl, fun _ => rfl, fun o h0 _ => h0, fun j _ _ => (pg_rep n j).symm, fun j _ _ => (pg_rep n j).symm, .first n⟩
theorem crashTo_rel {n : Nat} {l : List HOp} {tk : List Bool} {ah : List HOp} {a d : VMap} {pre : List Int} {s : RS} (R : ARel n l tk ah a d pre s) (o : HOp) :
  (∀ j : Int, 0 ≤ j → j < n → getV (if lateB ah o = true then d else a) j = pgAt (crashTo o.era s).arr j) ∧ (∀ j : Int, 0 ≤ j → j < n → getV d j = pgAt (crashTo o.era s).dur j) := by
 rw [R.late, crashTo]
 by_cases h : s.era < o.era
 ·rw [if_pos (dT h), if_pos h]
  exact ⟨R.dv, R.dv⟩
 ·rw [if_neg (by rw [dF h]; decide), if_neg h]
  exact ⟨R.av, R.dv⟩
theorem hap_rel {n : Nat} {a d : VMap} {s : RS} {o : HOp} (ha : ∀ j : Int, 0 ≤ j → j < n → getV a j = pgAt s.arr j) (hd : ∀ j : Int, 0 ≤ j → j < n → getV d j = pgAt s.dur j) (hl : s.arr.length = n) (hm : mayB o n = true) :
  (hapV a d o).1 = (hapR s o).2 ∧ (∀ j : Int, 0 ≤ j → j < n → getV (hapV a d o).2.1 j = pgAt (hapR s o).1.arr j) ∧ (∀ j : Int, 0 ≤ j → j < n → getV (hapV a d o).2.2 j = pgAt (hapR s o).1.dur j) ∧ (hapR s o).1.era = s.era := by
 obtain ⟨m1, m2, m3⟩ := may_out hm
 unfold hapV hapR
 by_cases k1 : o.op.kind = 1
 ·rw [if_pos k1, if_pos k1]
  obtain ⟨i0, i1⟩ := m2 (.inl k1)
  exact ⟨by simp only; rw [ha _ i0 i1], ha, hd, rfl⟩
 ·rw [if_neg k1, if_neg k1]
  by_cases k2 : o.op.kind = 2
  ·rw [if_pos k2, if_pos k2]
   obtain ⟨i0, i1⟩ := m2 (.inr k2)
   refine ⟨rfl, fun j j0 j1 => ?_, hd, rfl⟩
   simp only
   rw [getV_put, pgAt]
   by_cases e : j = o.op.index
   ·subst e
    rw [if_pos rfl, List.getElem?_set_self (by omega)]
    rfl
   ·rw [if_neg e, List.getElem?_set_ne (by omega)]
    exact ha j j0 j1
  ·rw [if_neg k2, if_neg k2]
   exact ⟨rfl, ha, ha, rfl⟩
theorem ARel.step {n : Nat} {l : List HOp} {tk : List Bool} {ah : List HOp} {a d : VMap} {pre : List Int} {s : RS} (R : ARel n l tk ah a d pre s) {i : Int} {o : HOp} (hE : 0 ≤ o.era) (hE1 : o.era ≤ 1000000) (hn : n ≤ 1048576) (h0 : 0 ≤ i) (ho : l[i.toNat]? = some o) (hm : mayB o n = true) (hb : pre.any (befA l o) = false) :
  (hapV (if lateB ah o = true then d else a) d o).1 = (hapR (crashTo o.era s) o).2 ∧ ARel n l (tk.set i.toNat true) (ah ++ [o]) (hapV (if lateB ah o = true then d else a) d o).2.1 (hapV (if lateB ah o = true then d else a) d o).2.2 (pre ++ [i]) (hapR (crashTo o.era s) o).1 := by
 obtain ⟨c1, c2⟩ := crashTo_rel R o
 have K := R.ok.to hE1
 obtain ⟨e1, e2, e3, e4⟩ := hap_rel c1 c2 K.al hm
 have hlt := (List.getElem?_eq_some_iff.1 ho).1
 have hso : s.era ≤ o.era := R.ord o hE (by rw [R.any]; exact hb)
 have hse : (hapR (crashTo o.era s) o).1.era = o.era := by
  rw [e4, crashTo]
  by_cases h : s.era < o.era
  ·rw [if_pos h]
  ·rw [if_neg h]; omega
 refine ⟨e1, ⟨by rw [List.length_set]; exact R.tkl, fun j hj => ?_, fun x => ?_, fun x => ?_, fun x x0 hx => ?_, e2, e3, (K.hap hn hm).2⟩⟩
 ·rw [List.any_append, List.any_cons, List.any_nil, Bool.or_false]
  by_cases e : j = i.toNat
  ·subst e
   have : decide (i = ((i.toNat : Nat) : Int)) = true := dT (by omega)
   rw [List.getElem?_set_self (by rw [R.tkl]; exact hlt), this, Bool.or_true]
  ·have : decide (i = (j : Int)) = false := dF (by omega)
   rw [List.getElem?_set_ne (fun x => e x.symm), R.tki j hj, this, Bool.or_false]
 ·rw [List.any_append, List.any_append, R.any x]
  congr 1
  simp only [List.any_cons, List.any_nil, befA, ho]
 ·rw [hse, lateB, List.getLast?_concat]
 ·rw [hse]
  rw [List.any_append, Bool.or_eq_false_iff] at hx
  have h2 := hx.2
  simp only [List.any_cons, List.any_nil, Bool.or_false] at h2
  unfold befB at h2
  split at h2
  ·omega
  ·have := of_decide_eq_false h2
   omega
theorem acc_rel {n : Nat} {l : List HOp} (hn : n ≤ 1048576) (hE : ∀ o ∈ l, 0 ≤ o.era ∧ o.era ≤ 1000000) : ∀ (order : List Int) (tk : List Bool) (ah : List HOp) (a d : VMap) (pre : List Int) (s : RS), ARel n l tk ah a d pre s →
  (accL n l order tk ah a d).1 = raccL n l order pre s ∧ ((accL n l order tk ah a d).1 = 0 → (accL n l order tk ah a d).2.length = l.length ∧ ∀ j, j < l.length → (accL n l order tk ah a d).2[j]? = some ((pre ++ order).any fun y => decide (y = (j : Int))))
 | [], tk, ah, a, d, pre, s, R => by
  rw [accL, raccL]
  exact ⟨rfl, fun _ => ⟨R.tkl, fun j hj => by rw [List.append_nil]; exact R.tki j hj⟩⟩
 | i :: os, tk, ah, a, d, pre, s, R => by
  rw [accL, raccL]
  by_cases h0 : i < 0
  ·rw [if_pos h0, if_pos h0]
   exact ⟨rfl, fun h => by cases h⟩
  rw [if_neg h0, if_neg h0]
  cases ho : l[i.toNat]? with
  | none => exact ⟨rfl, fun h => by cases h⟩
  | some o =>
  simp only
  have hlt := (List.getElem?_eq_some_iff.1 ho).1
  have hii : ((i.toNat : Nat) : Int) = i := by omega
  have ht : tk[i.toNat]? = some (pre.any fun y => decide (y = i)) := by
   have := R.tki i.toNat hlt
   rw [hii] at this
   exact this
  rw [ht]
  by_cases h1 : (pre.any fun y => decide (y = i)) = true
  ·rw [if_pos (by rw [h1]), if_pos h1]
   exact ⟨rfl, fun h => by cases h⟩
  rw [if_neg (fun h => h1 (Option.some.inj h)), if_neg h1]
  by_cases h2 : mayB o n = false
  ·rw [if_pos h2, if_pos h2]
   exact ⟨rfl, fun h => by cases h⟩
  rw [if_neg h2, if_neg h2, R.any o]
  by_cases h3 : pre.any (befA l o) = true
  ·rw [if_pos h3, if_pos h3]
   exact ⟨rfl, fun h => by cases h⟩
  rw [if_neg h3, if_neg h3]
  obtain ⟨e0, e1⟩ := hE o (List.mem_of_getElem? ho)
  obtain ⟨f1, f2⟩ := R.step e0 e1 hn (by omega) ho (by simpa using h2) (by simpa using h3)
  rw [f1]
  by_cases h4 : (hapR (crashTo o.era s) o).2 = false
  ·rw [if_pos h4, if_pos h4]
   exact ⟨rfl, fun h => by cases h⟩
  rw [if_neg h4, if_neg h4]
  have := acc_rel hn hE os _ _ _ _ _ _ f2
  rw [List.append_assoc] at this
  exact this
theorem mis_rel (ord : List Int) : ∀ (l : List HOp) (tk : List Bool) (k : Nat), tk.length = l.length → (∀ j, j < l.length → tk[j]? = some (ord.any fun y => decide (y = ((k + j : Nat) : Int)))) → misB l tk = rmisB ord l k
 | [], tk, k, _, _ => by rw [misB_nil, rmisB]
 | o :: l, [], k, h, _ => by cases h
 | o :: l, t :: tk, k, h, hj => by
  have h0 := hj 0 (Nat.zero_lt_succ _)
  rw [List.getElem?_cons_zero, Nat.add_zero] at h0
  rw [misB, rmisB, Option.some.inj h0, mis_rel ord l tk (k + 1) (by simpa using h) (fun j hl => by
   have := hj (j + 1) (Nat.succ_lt_succ hl)
   rw [List.getElem?_cons_succ, show k + (j + 1) = k + 1 + j by omega] at this
   exact this)]
theorem accept_same {n : Nat} {l : List HOp} (hn : n ≤ 1048576) (hE : ∀ o ∈ l, 0 ≤ o.era ∧ o.era ≤ 1000000) (order : List Int) : _root_.Go.Proofs.Ytkehohfgbblokaa.accS n l order = rAccS n n l order := by
 obtain ⟨h1, h2⟩ := acc_rel hn hE order _ _ _ _ _ _ (ARel.first n l)
 unfold _root_.Go.Proofs.Ytkehohfgbblokaa.accS rAccS
 rw [← h1]
 by_cases h : (accL n l order (List.replicate l.length false) [] [] []).1 = 0
 ·rw [if_pos h, if_pos h]
  obtain ⟨e1, e2⟩ := h2 h
  rw [mis_rel order l _ 0 e1 (fun j hj => by rw [Nat.zero_add]; exact e2 j hj)]
 ·rw [if_neg h, if_neg h]
end Go.Proofs.Ytkehohfgbblokaa
namespace Go.Proofs.Ytkehohfgbblokaa
open Go.Eng Go.Plain
set_option maxHeartbeats 32000000
set_option maxRecDepth 20000
attribute [local irreducible] WC RegS RegD SeqQ BlkQ ScoQ RegK CutK Sat SatN FnIs LoopQ StepIs OpIs
theorem hof_frz (x : List XE) : FnIs Try.prog 17 [.d (encXH x)] [] (.d (encH (hOf x))) [] := (hof_own x).freeze_out 64 _ rfl (Frz.own rfl) trivial
theorem opE_hOf (x : List XE) {b : Int} (h0 : 1 ≤ b) (h1 : b ≤ 4096) : opE (hOf x) b = 0 := by
 rw [opE, hOf_chk, if_pos rfl, if_neg (by omega)]
theorem opsH_hOf (x : List XE) : opsH (hOf x) = opsR (hOf x) := by
 rw [opsH, hOf_chk, if_pos rfl, ops_same (by rw [hOf_chk])]
theorem law25_accept (x : List XE) (order : List Int) (n : UInt8) : FnIs Try.prog 4 [.d (encXH x), .d (encIs order), .int .u8 (n.toNat : Nat)] [] (.bool true) [] := by
 refine fnIs_of tab_ok Try.func4 rfl rfl rfl ?_
 by_cases h20 : 20 < order.length
 ·have d0 : decide ((20 : Int) < (order.length : Int)) = true := dT (by omega)
  refine sR ?_;refine rN ?_;refine rC ?_;refine zW ?_;refine rC ?_;refine rQ iE ?_;refine rC ?_;refine zI ?_;refine sR ?_;refine rQ (call_r lives_is rfl rfl arg_nil (.inl rfl) (fun _ => rfl)) ?_
  refine rC ?_;refine zT ?_;refine seq_r ?_
  exact ⟨trivial, [], lf⟩
 have d0 : decide ((20 : Int) < (order.length : Int)) = false := dF (by omega)
 have hm4 : n.toNat % 4 < 4 := Nat.mod_lt _ (by decide)
 have hwc : IntKind.i64.wrap ((n.toNat % 4 : Nat) : Int) = ((n.toNat % 4 : Nat) : Int) := wrap_i64 (by omega) (by omega)
 have hwa : IntKind.i64.wrap (1 + ((n.toNat % 4 : Nat) : Int)) = ((1 + n.toNat % 4 : Nat) : Int) := by rw [wrap_i64 (by omega) (by omega)]; omega
 have hof := hof_frz x
 have hl := hOf_len x
 have hol := opsR_len (hOf x)
 have hE : ∀ o ∈ opsR (hOf x), 0 ≤ o.era ∧ o.era ≤ 1000000 := fun o ho => by have := opsR_era _ o ho; omega
 have hac := accept_is (hOf x) ((1 + n.toNat % 4 : Nat) : Int) order (by omega) (by have := rdH_all_len (hOf x); omega) (by omega)
 rw [if_pos (opE_hOf x (by omega) (by omega)), opsH_hOf, accept_same (by omega) hE order] at hac
 have hra := raccept_go (hOf x) (1 + n.toNat % 4) order (opsR (hOf x)) (rops_is _ (by omega)) (by omega) (by omega) (by omega) hE
 generalize rAccS ((1 + n.toNat % 4 : Nat) : Int) (1 + n.toNat % 4) (opsR (hOf x)) order = V at hac hra
 have hV : decide (V = V) = true := dT rfl
 generalize hOf x = h at hof hac hra
 refine sR ?_;refine rN ?_;refine rC ?_;refine zW ?_;refine rC ?_;refine rQ iE ?_;refine rC ?_;refine zG ?_;refine kS ?_;refine sR ?_;refine rQ iM ?_
 refine rQ (call_r hof rfl rfl (arg_e arg_nil) (.inl rfl) (fun _ => rfl)) ?_;refine rC ?_;refine rQ (rem_nat (a := n.toNat) (b := 4) tab_ok rfl rfl rfl (by decide)) ?_
 refine rQ (conv_int (m := ((n.toNat % 4 : Nat) : Int)) tab_ok rfl rfl rfl hwc) ?_;refine rQ (add_int (m := ((1 + n.toNat % 4 : Nat) : Int)) tab_ok rfl rfl hwa) ?_
 refine zD ?_
 refine nR ?_;refine zU ?_
 refine rQ (call_r hac rfl rfl (arg_e (arg_e (arg_e arg_nil))) (.inl rfl) (fun _ => rfl)) ?_;refine zU ?_
 refine rQ (call_r hra rfl rfl (arg_e (arg_e (arg_e arg_nil))) (.inl rfl) (fun _ => rfl)) ?_;refine zD ?_
 refine rO ?_;refine rQ (call_r lives_is rfl rfl arg_nil (.inl rfl) (fun _ => rfl)) ?_;refine rQ iT ?_;refine rC ?_;refine zT ?_
 exact ⟨trivial, [], lf⟩
end Go.Proofs.Ytkehohfgbblokaa
namespace Go.Proofs.Ytkehohfgbblokaa
open Go.Eng Go.Plain
set_option maxHeartbeats 32000000
set_option maxRecDepth 20000
theorem pu8_of {a : Int} (h : (Lit.int .u8 a).wf = true) : 0 ≤ a ∧ a ≤ 255 := by
 simp [Lit.wf, IntKind.min, IntKind.max, IntKind.bits, IntKind.signed] at h
 omega
theorem pi64_of {a : Int} (h : (Lit.int .i64 a).wf = true) : -9223372036854775808 ≤ a ∧ a ≤ 9223372036854775807 := by
 simp [Lit.wf, IntKind.min, IntKind.max, IntKind.bits, IntKind.signed] at h
 omega
def toB (l : List Int) : List UInt8 := l.map fun z => z.toNat.toUInt8
theorem u8_back {a : Int} (h : (Lit.int .u8 a).wf = true) : ((a.toNat.toUInt8.toNat : Nat) : Int) = a := by
 obtain ⟨h1, h2⟩ := pu8_of h
 simp only [Nat.toUInt8_eq, UInt8.toNat_ofNat']
 omega
theorem opens_x : Opens Try.prog 74 3 encXE fun _ => True :=
 Opens.map (opens_struct (P := Try.prog) Try.underlying74 (by kernel_rfl) (fun _ => rfl) (opensF_cons rfl (by kernel_rfl) (opens_int (P := Try.prog) Try.underlying5) (opensF_cons rfl (by kernel_rfl) (opens_int (P := Try.prog) Try.underlying5) (opensF_cons rfl (by kernel_rfl) (opens_int (P := Try.prog) Try.underlying5) opensF_nil))))
  (fun q => ⟨q.1.toNat.toUInt8, q.2.1.toNat.toUInt8, q.2.2.1.toNat.toUInt8⟩) (fun q h => by simp only [encXE, u8_back h.1, u8_back h.2.1, u8_back h.2.2.1]) (fun _ _ => trivial)
theorem opens_xh : Opens Try.prog 38 1 encXH fun _ => True :=
 Opens.map (opens_struct (P := Try.prog) Try.underlying38 (by kernel_rfl) (fun _ => rfl) (opensF_cons rfl (by kernel_rfl)
  (opens_slice (P := Try.prog) Try.underlying36 (by kernel_rfl) opens_x) opensF_nil))
  (fun q => q.1) (fun _ _ => rfl) (fun _ _ => trivial)
theorem opens_ints : Opens Try.prog 39 1 encL fun l => ∀ x ∈ l, -9223372036854775808 ≤ x ∧ x ≤ 9223372036854775807 :=
 Opens.map (opens_slice (P := Try.prog) Try.underlying39 (by kernel_rfl) (opens_int (P := Try.prog) Try.underlying3)) id (fun _ _ => rfl) (fun _ h x hx => pi64_of (h.2 x hx))
end Go.Proofs.Ytkehohfgbblokaa
