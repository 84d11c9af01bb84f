/- Texts of the proof: P10, P11, Eng75, P12, Eng76, P13, P1, P2, P8, Eng77, P14, PX, P15, P16, P17, P18, P19, P20, P21, P22, P23, P24, P25, P26, P27, P28, PY, P29, P30, Eng78, P31, P32, P33, P34, PZ, P35, P36, P37. -/
import Derived.Test.YtmojbghcngdkpaaGreatDoorG03

set_option linter.unusedVariables false
set_option linter.unusedSimpArgs false
set_option linter.unusedSectionVars false

namespace Go.Proofs.YtmojbghcngdkpaaGreatDoor
open Go.Eng Go.Plain
set_option maxHeartbeats 4000000
set_option maxRecDepth 20000
attribute [local irreducible] WC RegS RegD SeqQ BlkQ ScoQ RegK CutK Sat SatN FnIs LoopQ StepIs OpIs
def opV (k i d : List UInt8) : POp := ⟨puV k, atoiV i, (unhexP d).getD []⟩
def opOk (k i d : List UInt8) : Bool := (unhexP d).isSome && puOk k && atoiOk i
abbrev opR (o : POp) (b : Bool) : AV := .tup (.acons (.d (encPOp o)) (.acons (.bool b) .anil))
def opNil : POp := ⟨0, 0, []⟩
theorem puV_in (k : List UInt8) : 0 ≤ puV k ∧ puV k ≤ 255 := by
 unfold puV
 split
 ·rename_i u h
  rw [Lib.parseUintB] at h
  split at h
  ·cases h
  ·have := Lib.parseUintM_le (2 ^ 8 - 1) _ 0 _ (by decide) h
   omega
 ·omega
 ·omega
theorem opF_is (k i d : List UInt8) : opF k i d = if opOk k i d then some (opV k i d) else none := by
 unfold opF opOk opV puOk puV atoiOk atoiV
 cases Lib.parseUintB 8 k <;> cases Lib.atoiAll i <;> cases unhexP d <;> rfl
theorem nil_op : AVLe (.d (.cons (.sc (.int .u8 0)) (.cons (.sc (.int .i64 0)) (.cons (.sc nil_) .nil)))) (.d (encPOp opNil)) := by
 intro σ w X v h
 unfold RelV at h ⊢
 rw [if_pos (by rfl)] at h ⊢
 obtain ⟨c, rfl, c1, r1, rfl, h1, c2, r2, rfl, h2, c3, r3, rfl, h3, h4⟩ := h
 exact ⟨_, rfl, c1, _, rfl, h1, c2, _, rfl, h2, c3, r3, rfl, .inl ⟨rfl, h3.1⟩, h4⟩
theorem operation_short (w : List (List UInt8)) (h3 : w.length ≠ 3) : FnIs Tryz.prog 127 [.d (.arr 1 strD w)] [] (opR opNil false) [] := by
 have hn : (!decide ((w.length : Int) = 3)) = true := by rw [dF (by omega)]; rfl
 refine fnIs_of tab_ok Tryz.func127 rfl rfl rfl ?_;refine sR ?_;refine rN ?_;refine rC ?_;refine nQ ?_;refine sR ?_;refine rC ?_;refine rQ iE ?_;refine rC ?_;refine nS ?_
 refine wT ?_;refine sR ?_;refine rQ iM ?_;refine rW ?_;refine rC ?_;refine nS ?_;refine wc_ret ?_;refine seq_r ?_
 exact ⟨trivial, _, rfl, [], .of rfl rfl rfl rfl rfl ⟨⟨_, rfl, AVLe.tup1 nil_op rfl⟩, rfl, trivial⟩ trivial⟩
theorem operation_full (k i d : List UInt8) (hk : k.length ≤ 281474976710656) (hi : i.length ≤ 281474976710656) (hd : d.length ≤ 1048576) (b1 b2 b3 : Bool) (h1 : (unhexP d).isSome = b1) (h2 : puOk k = b2) (h3 : atoiOk i = b3) : FnIs Tryz.prog 127 [.d (.arr 1 strD [k, i, d])] [] (opR (opV k i d) (opOk k i d)) [] := by
 have hw : IntKind.u8.wrap (puV k) = puV k := by
  obtain ⟨p1, p2⟩ := puV_in k
  rw [show puV k = ((puV k).toNat : Int) by omega]
  exact wrap_u8n (by omega)
 rw [show opOk k i d = (b1 && b2 && b3) by rw [opOk, h1, h2, h3]]
 have hp := pu_is hk
 have ha := atoi_is hi
 have hu := unhex_is d hd
 rw [h2] at hp
 rw [h3] at ha
 unfold unR at hu
 rw [h1] at hu
 refine fnIs_of tab_ok Tryz.func127 rfl rfl rfl ?_
 have g0 : [k, i, d][((0 : Int)).toNat]? = some k := rfl
 have g1 : [k, i, d][((1 : Int)).toNat]? = some i := rfl
 have g2 : [k, i, d][((2 : Int)).toNat]? = some d := rfl
 cases b1 <;> cases b2 <;> cases b3
 ·refine sR ?_;refine rN ?_;refine rC ?_;refine nQ ?_;refine sR ?_;refine rC ?_;refine rQ iE ?_;refine rC ?_;refine nS ?_;refine wG ?_;refine kS ?_;refine sR ?_
  refine rC ?_;refine rQ iA ?_;refine rQ iL ?_;refine rQ (call_r hp rfl rfl (arg_e (arg_e (arg_e arg_nil))) (.inl rfl) (fun _ => rfl)) ?_;iterate 5 refine rC ?_
  refine nR ?_;refine rC ?_;refine rQ iA ?_;refine rQ iL ?_;refine rQ (call_r ha rfl rfl (arg_e arg_nil) (.inl rfl) (fun _ => rfl)) ?_;iterate 5 refine rC ?_
  refine nR ?_;refine rC ?_;refine rQ iA ?_;refine rQ iL ?_;refine rQ (call_r hu rfl rfl (arg_e arg_nil) (.inl rfl) (fun _ => rfl)) ?_;iterate 5 refine rC ?_
  refine nQ ?_;refine wc_draw (by kernel_rfl) ?_;refine dC [4] [] ?_;refine dQ [34] [] (conv_int (m := puV k) tab_ok rfl rfl rfl hw) ?_;refine dC [6] [] ?_;refine dC [8] [] ?_
  refine dQ [35, 36, 37] [] iS ?_;refine dC [3] [] ?_;refine dC [39] [] ?_;refine dreg_offq [40, 5] rfl rfl rfl rfl ?_;refine dreg_offq [40, 41] rfl rfl rfl rfl ?_
  refine dQ [40, 42] [] iG ?_;refine dC [43] [] ?_;refine dreg_offq [44, 7] rfl rfl rfl rfl ?_;refine dreg_offq [44, 45] rfl rfl rfl rfl ?_;refine dQ [44, 46] [] iG ?_
  refine dreg_s [2, 38] [64] (store_row tab_ok rfl rfl rfl ⟨_, ⟨rfl, rfl, rfl⟩, rfl⟩ rfl) ?_;refine dC [47] [] ?_;refine dreg_end (by kernel_rfl) ?_;refine seq_n ?_
  refine wc_ret ?_
  exact ⟨trivial, _, rfl, [], lf⟩
 ·refine sR ?_;refine rN ?_;refine rC ?_;refine nQ ?_;refine sR ?_;refine rC ?_;refine rQ iE ?_;refine rC ?_;refine nS ?_;refine wG ?_;refine kS ?_;refine sR ?_
  refine rC ?_;refine rQ iA ?_;refine rQ iL ?_;refine rQ (call_r hp rfl rfl (arg_e (arg_e (arg_e arg_nil))) (.inl rfl) (fun _ => rfl)) ?_;iterate 5 refine rC ?_
  refine nR ?_;refine rC ?_;refine rQ iA ?_;refine rQ iL ?_;refine rQ (call_r ha rfl rfl (arg_e arg_nil) (.inl rfl) (fun _ => rfl)) ?_;iterate 5 refine rC ?_
  refine nR ?_;refine rC ?_;refine rQ iA ?_;refine rQ iL ?_;refine rQ (call_r hu rfl rfl (arg_e arg_nil) (.inl rfl) (fun _ => rfl)) ?_;iterate 5 refine rC ?_
  refine nQ ?_;refine wc_draw (by kernel_rfl) ?_;refine dC [4] [] ?_;refine dQ [34] [] (conv_int (m := puV k) tab_ok rfl rfl rfl hw) ?_;refine dC [6] [] ?_;refine dC [8] [] ?_
  refine dQ [35, 36, 37] [] iS ?_;refine dC [3] [] ?_;refine dC [39] [] ?_;refine dreg_offq [40, 5] rfl rfl rfl rfl ?_;refine dreg_offq [40, 41] rfl rfl rfl rfl ?_
  refine dQ [40, 42] [] iG ?_;refine dC [43] [] ?_;refine dreg_offq [44, 7] rfl rfl rfl rfl ?_;refine dreg_offq [44, 45] rfl rfl rfl rfl ?_;refine dQ [44, 46] [] iG ?_
  refine dreg_s [2, 38] [64] (store_row tab_ok rfl rfl rfl ⟨_, ⟨rfl, rfl, rfl⟩, rfl⟩ rfl) ?_;refine dC [47] [] ?_;refine dreg_end (by kernel_rfl) ?_;refine seq_n ?_
  refine wc_ret ?_
  exact ⟨trivial, _, rfl, [], lf⟩
 ·refine sR ?_;refine rN ?_;refine rC ?_;refine nQ ?_;refine sR ?_;refine rC ?_;refine rQ iE ?_;refine rC ?_;refine nS ?_;refine wG ?_;refine kS ?_;refine sR ?_
  refine rC ?_;refine rQ iA ?_;refine rQ iL ?_;refine rQ (call_r hp rfl rfl (arg_e (arg_e (arg_e arg_nil))) (.inl rfl) (fun _ => rfl)) ?_;iterate 5 refine rC ?_
  refine nR ?_;refine rC ?_;refine rQ iA ?_;refine rQ iL ?_;refine rQ (call_r ha rfl rfl (arg_e arg_nil) (.inl rfl) (fun _ => rfl)) ?_;iterate 5 refine rC ?_
  refine nR ?_;refine rC ?_;refine rQ iA ?_;refine rQ iL ?_;refine rQ (call_r hu rfl rfl (arg_e arg_nil) (.inl rfl) (fun _ => rfl)) ?_;iterate 5 refine rC ?_
  refine nQ ?_;refine wc_draw (by kernel_rfl) ?_;refine dC [4] [] ?_;refine dQ [34] [] (conv_int (m := puV k) tab_ok rfl rfl rfl hw) ?_;refine dC [6] [] ?_;refine dC [8] [] ?_
  refine dQ [35, 36, 37] [] iS ?_;refine dC [3] [] ?_;refine dC [39] [] ?_;refine dreg_offq [40, 5] rfl rfl rfl rfl ?_;refine dreg_offq [40, 41] rfl rfl rfl rfl ?_
  refine dQ [40, 42] [] iG ?_;refine dC [43] [] ?_;refine dreg_offq [44, 7] rfl rfl rfl rfl ?_;refine dreg_offq [44, 45] rfl rfl rfl rfl ?_;refine dQ [44, 46] [] iG ?_
  refine dreg_s [2, 38] [64] (store_row tab_ok rfl rfl rfl ⟨_, ⟨rfl, rfl, rfl⟩, rfl⟩ rfl) ?_;refine dC [47] [] ?_;refine dreg_end (by kernel_rfl) ?_;refine seq_n ?_
  refine wc_ret ?_
  exact ⟨trivial, _, rfl, [], lf⟩
 ·refine sR ?_;refine rN ?_;refine rC ?_;refine nQ ?_;refine sR ?_;refine rC ?_;refine rQ iE ?_;refine rC ?_;refine nS ?_;refine wG ?_;refine kS ?_;refine sR ?_
  refine rC ?_;refine rQ iA ?_;refine rQ iL ?_;refine rQ (call_r hp rfl rfl (arg_e (arg_e (arg_e arg_nil))) (.inl rfl) (fun _ => rfl)) ?_;iterate 5 refine rC ?_
  refine nR ?_;refine rC ?_;refine rQ iA ?_;refine rQ iL ?_;refine rQ (call_r ha rfl rfl (arg_e arg_nil) (.inl rfl) (fun _ => rfl)) ?_;iterate 5 refine rC ?_
  refine nR ?_;refine rC ?_;refine rQ iA ?_;refine rQ iL ?_;refine rQ (call_r hu rfl rfl (arg_e arg_nil) (.inl rfl) (fun _ => rfl)) ?_;iterate 5 refine rC ?_
  refine nQ ?_;refine wc_draw (by kernel_rfl) ?_;refine dC [4] [] ?_;refine dQ [34] [] (conv_int (m := puV k) tab_ok rfl rfl rfl hw) ?_;refine dC [6] [] ?_;refine dC [8] [] ?_
  refine dQ [35, 36, 37] [] iS ?_;refine dC [3] [] ?_;refine dC [39] [] ?_;refine dreg_offq [40, 5] rfl rfl rfl rfl ?_;refine dreg_offq [40, 41] rfl rfl rfl rfl ?_
  refine dQ [40, 42] [] iG ?_;refine dC [43] [] ?_;refine dreg_offq [44, 7] rfl rfl rfl rfl ?_;refine dreg_offq [44, 45] rfl rfl rfl rfl ?_;refine dQ [44, 46] [] iG ?_
  refine dreg_s [2, 38] [64] (store_row tab_ok rfl rfl rfl ⟨_, ⟨rfl, rfl, rfl⟩, rfl⟩ rfl) ?_;refine dC [47] [] ?_;refine dreg_end (by kernel_rfl) ?_;refine seq_n ?_
  refine wc_ret ?_
  exact ⟨trivial, _, rfl, [], lf⟩
 ·refine sR ?_;refine rN ?_;refine rC ?_;refine nQ ?_;refine sR ?_;refine rC ?_;refine rQ iE ?_;refine rC ?_;refine nS ?_;refine wG ?_;refine kS ?_;refine sR ?_
  refine rC ?_;refine rQ iA ?_;refine rQ iL ?_;refine rQ (call_r hp rfl rfl (arg_e (arg_e (arg_e arg_nil))) (.inl rfl) (fun _ => rfl)) ?_;iterate 5 refine rC ?_
  refine nR ?_;refine rC ?_;refine rQ iA ?_;refine rQ iL ?_;refine rQ (call_r ha rfl rfl (arg_e arg_nil) (.inl rfl) (fun _ => rfl)) ?_;iterate 5 refine rC ?_
  refine nR ?_;refine rC ?_;refine rQ iA ?_;refine rQ iL ?_;refine rQ (call_r hu rfl rfl (arg_e arg_nil) (.inl rfl) (fun _ => rfl)) ?_;iterate 5 refine rC ?_
  refine nQ ?_;refine wc_draw (by kernel_rfl) ?_;refine dC [4] [] ?_;refine dQ [34] [] (conv_int (m := puV k) tab_ok rfl rfl rfl hw) ?_;refine dC [6] [] ?_;refine dC [8] [] ?_
  refine dQ [35, 36, 37] [] iS ?_;refine dC [3] [] ?_;refine dC [39] [] ?_;refine dreg_onq [40, 5] [] rfl rfl rfl rfl (step_C tab_ok (fun K hk => hk)) ?_;refine dreg_onq [40, 41] [] rfl rfl rfl rfl (eql_er Tryz.underlying122 rfl) ?_
  refine dQ [40, 42] [] iU ?_;refine dC [43] [] ?_;refine dreg_offq [44, 7] rfl rfl rfl rfl ?_;refine dreg_offq [44, 45] rfl rfl rfl rfl ?_;refine dQ [44, 46] [] iG ?_
  refine dreg_s [2, 38] [64] (store_row tab_ok rfl rfl rfl ⟨_, ⟨rfl, rfl, rfl⟩, rfl⟩ rfl) ?_;refine dC [47] [] ?_;refine dreg_end (by kernel_rfl) ?_;refine seq_n ?_
  refine wc_ret ?_
  exact ⟨trivial, _, rfl, [], lf⟩
 ·refine sR ?_;refine rN ?_;refine rC ?_;refine nQ ?_;refine sR ?_;refine rC ?_;refine rQ iE ?_;refine rC ?_;refine nS ?_;refine wG ?_;refine kS ?_;refine sR ?_
  refine rC ?_;refine rQ iA ?_;refine rQ iL ?_;refine rQ (call_r hp rfl rfl (arg_e (arg_e (arg_e arg_nil))) (.inl rfl) (fun _ => rfl)) ?_;iterate 5 refine rC ?_
  refine nR ?_;refine rC ?_;refine rQ iA ?_;refine rQ iL ?_;refine rQ (call_r ha rfl rfl (arg_e arg_nil) (.inl rfl) (fun _ => rfl)) ?_;iterate 5 refine rC ?_
  refine nR ?_;refine rC ?_;refine rQ iA ?_;refine rQ iL ?_;refine rQ (call_r hu rfl rfl (arg_e arg_nil) (.inl rfl) (fun _ => rfl)) ?_;iterate 5 refine rC ?_
  refine nQ ?_;refine wc_draw (by kernel_rfl) ?_;refine dC [4] [] ?_;refine dQ [34] [] (conv_int (m := puV k) tab_ok rfl rfl rfl hw) ?_;refine dC [6] [] ?_;refine dC [8] [] ?_
  refine dQ [35, 36, 37] [] iS ?_;refine dC [3] [] ?_;refine dC [39] [] ?_;refine dreg_onq [40, 5] [] rfl rfl rfl rfl (step_C tab_ok (fun K hk => hk)) ?_;refine dreg_onq [40, 41] [] rfl rfl rfl rfl (eql_er Tryz.underlying122 rfl) ?_
  refine dQ [40, 42] [] iU ?_;refine dC [43] [] ?_;refine dreg_offq [44, 7] rfl rfl rfl rfl ?_;refine dreg_offq [44, 45] rfl rfl rfl rfl ?_;refine dQ [44, 46] [] iG ?_
  refine dreg_s [2, 38] [64] (store_row tab_ok rfl rfl rfl ⟨_, ⟨rfl, rfl, rfl⟩, rfl⟩ rfl) ?_;refine dC [47] [] ?_;refine dreg_end (by kernel_rfl) ?_;refine seq_n ?_
  refine wc_ret ?_
  exact ⟨trivial, _, rfl, [], lf⟩
 ·refine sR ?_;refine rN ?_;refine rC ?_;refine nQ ?_;refine sR ?_;refine rC ?_;refine rQ iE ?_;refine rC ?_;refine nS ?_;refine wG ?_;refine kS ?_;refine sR ?_
  refine rC ?_;refine rQ iA ?_;refine rQ iL ?_;refine rQ (call_r hp rfl rfl (arg_e (arg_e (arg_e arg_nil))) (.inl rfl) (fun _ => rfl)) ?_;iterate 5 refine rC ?_
  refine nR ?_;refine rC ?_;refine rQ iA ?_;refine rQ iL ?_;refine rQ (call_r ha rfl rfl (arg_e arg_nil) (.inl rfl) (fun _ => rfl)) ?_;iterate 5 refine rC ?_
  refine nR ?_;refine rC ?_;refine rQ iA ?_;refine rQ iL ?_;refine rQ (call_r hu rfl rfl (arg_e arg_nil) (.inl rfl) (fun _ => rfl)) ?_;iterate 5 refine rC ?_
  refine nQ ?_;refine wc_draw (by kernel_rfl) ?_;refine dC [4] [] ?_;refine dQ [34] [] (conv_int (m := puV k) tab_ok rfl rfl rfl hw) ?_;refine dC [6] [] ?_;refine dC [8] [] ?_
  refine dQ [35, 36, 37] [] iS ?_;refine dC [3] [] ?_;refine dC [39] [] ?_;refine dreg_onq [40, 5] [] rfl rfl rfl rfl (step_C tab_ok (fun K hk => hk)) ?_;refine dreg_onq [40, 41] [] rfl rfl rfl rfl (eql_nilI Tryz.underlying122 rfl) ?_
  refine dQ [40, 42] [] iU ?_;refine dC [43] [] ?_;refine dreg_onq [44, 7] [] rfl rfl rfl rfl (step_C tab_ok (fun K hk => hk)) ?_;refine dreg_onq [44, 45] [] rfl rfl rfl rfl (eql_er Tryz.underlying122 rfl) ?_
  refine dQ [44, 46] [] iU ?_;refine dreg_s [2, 38] [64] (store_row tab_ok rfl rfl rfl ⟨_, ⟨rfl, rfl, rfl⟩, rfl⟩ rfl) ?_;refine dC [47] [] ?_;refine dreg_end (by kernel_rfl) ?_
  refine seq_n ?_;refine wc_ret ?_
  exact ⟨trivial, _, rfl, [], lf⟩
 ·refine sR ?_;refine rN ?_;refine rC ?_;refine nQ ?_;refine sR ?_;refine rC ?_;refine rQ iE ?_;refine rC ?_;refine nS ?_;refine wG ?_;refine kS ?_;refine sR ?_
  refine rC ?_;refine rQ iA ?_;refine rQ iL ?_;refine rQ (call_r hp rfl rfl (arg_e (arg_e (arg_e arg_nil))) (.inl rfl) (fun _ => rfl)) ?_;iterate 5 refine rC ?_
  refine nR ?_;refine rC ?_;refine rQ iA ?_;refine rQ iL ?_;refine rQ (call_r ha rfl rfl (arg_e arg_nil) (.inl rfl) (fun _ => rfl)) ?_;iterate 5 refine rC ?_
  refine nR ?_;refine rC ?_;refine rQ iA ?_;refine rQ iL ?_;refine rQ (call_r hu rfl rfl (arg_e arg_nil) (.inl rfl) (fun _ => rfl)) ?_;iterate 5 refine rC ?_
  refine nQ ?_;refine wc_draw (by kernel_rfl) ?_;refine dC [4] [] ?_;refine dQ [34] [] (conv_int (m := puV k) tab_ok rfl rfl rfl hw) ?_;refine dC [6] [] ?_;refine dC [8] [] ?_
  refine dQ [35, 36, 37] [] iS ?_;refine dC [3] [] ?_;refine dC [39] [] ?_;refine dreg_onq [40, 5] [] rfl rfl rfl rfl (step_C tab_ok (fun K hk => hk)) ?_;refine dreg_onq [40, 41] [] rfl rfl rfl rfl (eql_nilI Tryz.underlying122 rfl) ?_
  refine dQ [40, 42] [] iU ?_;refine dC [43] [] ?_;refine dreg_onq [44, 7] [] rfl rfl rfl rfl (step_C tab_ok (fun K hk => hk)) ?_;refine dreg_onq [44, 45] [] rfl rfl rfl rfl (eql_nilI Tryz.underlying122 rfl) ?_
  refine dQ [44, 46] [] iU ?_;refine dreg_s [2, 38] [64] (store_row tab_ok rfl rfl rfl ⟨_, ⟨rfl, rfl, rfl⟩, rfl⟩ rfl) ?_;refine dC [47] [] ?_;refine dreg_end (by kernel_rfl) ?_
  refine seq_n ?_;refine wc_ret ?_
  exact ⟨trivial, _, rfl, [], lf⟩
def opW (w : List (List UInt8)) : POp × Bool := match w with
 | [k, i, d] => (opV k i d, opOk k i d)
 | _ => (opNil, false)
theorem operation_is (w : List (List UInt8)) (hw : ∀ x ∈ w, x.length ≤ 1048576) : FnIs Tryz.prog 127 [.d (.arr 1 strD w)] [] (opR (opW w).1 (opW w).2) [] := by
 by_cases h3 : w.length = 3
 ·obtain ⟨k, i, d, rfl⟩ : ∃ k i d, w = [k, i, d] := by
   match w, h3 with
   | [k, i, d], _ => exact ⟨k, i, d, rfl⟩
  have hk := hw k (by simp)
  have hi := hw i (by simp)
  exact operation_full k i d (by omega) (by omega) (hw d (by simp)) _ _ _ rfl rfl rfl
 ·have := operation_short w h3
  rwa [show opW w = (opNil, false) by
   unfold opW
   split
   ·exact absurd rfl h3
   ·rfl]
theorem concat_as (ls : List (List (List UInt8))) (m : List (List UInt8)) (he : ls.flatten = m) (hp : 0 < m.length) (hL : m.length ≤ 1048576) (hn : ls.length ≤ 1000000) : FnIs Tryz.prog 128 [.d (.arr 1 encWs ls)] [] (.d (.arr 1 strD m)) [] := by
 have := concat_is ls (by rw [he]; exact hp) (by rw [he]; exact hL) hn
 rw [he] at this
 exact this.freeze_out 64 _ rfl (Frz.own rfl) trivial
theorem reader1_is (w : List (List UInt8)) (hw : ∀ x ∈ w, x.length ≤ 1048576) (hl : w.length ≤ 1048573) : FnIs Tryz.prog 126 [.d (.arr 1 strD w)] [] (opR (opW ([49] :: (w ++ [[45]]))).1 (opW ([49] :: (w ++ [[45]]))).2) [] := by
 have hc := concat_as [[[49]], w, [[45]]] ([49] :: (w ++ [[45]])) (by simp) (by simp) (by simp; omega) (by simp)
 have ho := operation_is ([49] :: (w ++ [[45]])) (by
  intro x hx
  rcases List.mem_cons.1 hx with rfl | hx
  ·decide
  ·rcases List.mem_append.1 hx with hx | hx
   ·exact hw x hx
   ·rw [List.mem_singleton.1 hx]; decide)
 refine fnIs_of tab_ok Tryz.func126 rfl rfl rfl ?_;refine sR ?_;refine rN ?_;refine rC ?_;refine nR ?_;refine reg_new (build_slice (s := 1) tab_ok rfl rfl rfl rfl rfl rfl rfl rfl) rfl ?_
 refine rC ?_;refine reg_new (build_slice (s := 1) tab_ok rfl rfl rfl rfl rfl rfl rfl rfl) rfl ?_;refine reg_freeze (env' := [(4, _), (2, _), (5, _), (6, _)]) (h' := [(64, some _), (96, some _)]) 80 _ rfl ⟨⟨_, rfl, Frz.lits1 (enc := strD) [49] rfl rfl⟩, ⟨_, rfl, .refl _⟩, ⟨_, rfl, .refl _⟩, ⟨_, rfl, .refl _⟩, trivial⟩ ⟨⟨rfl, _, rfl, .refl _⟩, ⟨rfl, _, rfl, .refl _⟩, trivial⟩ ?_
 refine reg_freeze (env' := [(6, _), (2, _), (4, _), (5, _)]) (h' := [(64, some _)]) 96 _ rfl ⟨⟨_, rfl, Frz.lits1 (enc := strD) [45] rfl rfl⟩, ⟨_, rfl, .refl _⟩, ⟨_, rfl, .refl _⟩, ⟨_, rfl, .refl _⟩, trivial⟩ ⟨⟨rfl, _, rfl, .refl _⟩, trivial⟩ ?_
 refine reg_new (build_slice (s := 1) tab_ok rfl rfl rfl rfl rfl rfl rfl rfl) rfl ?_;refine reg_freeze (env' := [(7, _), (2, _)]) (h' := [(64, some _)]) 104 _ rfl ⟨⟨_, rfl, Frz.litsN (t := 99) (s := 1) (m := 3) (ex := true) (enc := encWs) [[[49]], w, [[45]]] rfl (fun _ _ => rfl)⟩, ⟨_, rfl, .refl _⟩, trivial⟩ ⟨⟨rfl, _, rfl, .refl _⟩, trivial⟩ ?_
 refine rQ (call_r hc rfl rfl (arg_e arg_nil) (.inl rfl) (fun _ => rfl)) ?_;refine rQ (call_r ho rfl rfl (arg_e arg_nil) (.inl rfl) (fun _ => rfl)) ?_;iterate 2 refine rC ?_
 refine rW ?_;refine rC ?_;refine nS ?_;refine wc_ret ?_
 exact ⟨trivial, _, rfl, [], lf⟩
theorem reader2_is (w : List (List UInt8)) (hw : ∀ x ∈ w, x.length ≤ 1048576) (hl : w.length ≤ 1048573) : FnIs Tryz.prog 129 [.d (.arr 1 strD w)] [] (opR (opW ([50] :: w)).1 (opW ([50] :: w)).2) [] := by
 have hc := concat_as [[[50]], w] ([50] :: w) (by simp) (by simp) (by simp; omega) (by simp)
 have ho := operation_is ([50] :: w) (by
  intro x hx
  simp only [List.mem_cons] at hx
  rcases hx with rfl | hx
  ·decide
  ·exact hw x hx)
 refine fnIs_of tab_ok Tryz.func129 rfl rfl rfl ?_;refine sR ?_;refine rN ?_;refine rC ?_;refine nR ?_;refine reg_new (build_slice (s := 1) tab_ok rfl rfl rfl rfl rfl rfl rfl rfl) rfl ?_
 refine rC ?_;refine reg_freeze (env' := [(4, _), (2, _), (5, _)]) (h' := [(64, some _)]) 80 _ rfl ⟨⟨_, rfl, Frz.lits1 (enc := strD) [50] rfl rfl⟩, ⟨_, rfl, .refl _⟩, ⟨_, rfl, .refl _⟩, trivial⟩ ⟨⟨rfl, _, rfl, .refl _⟩, trivial⟩ ?_
 refine reg_new (build_slice (s := 1) tab_ok rfl rfl rfl rfl rfl rfl rfl rfl) rfl ?_;refine reg_freeze (env' := [(6, _), (2, _)]) (h' := [(64, some _)]) 96 _ rfl ⟨⟨_, rfl, Frz.lits2 (enc := encWs) [[50]] w rfl rfl rfl rfl⟩, ⟨_, rfl, .refl _⟩, trivial⟩ ⟨⟨rfl, _, rfl, .refl _⟩, trivial⟩ ?_
 refine rQ (call_r hc rfl rfl (arg_e arg_nil) (.inl rfl) (fun _ => rfl)) ?_;refine rQ (call_r ho rfl rfl (arg_e arg_nil) (.inl rfl) (fun _ => rfl)) ?_;iterate 2 refine rC ?_
 refine rW ?_;refine rC ?_;refine nS ?_;refine wc_ret ?_
 exact ⟨trivial, _, rfl, [], lf⟩
theorem reader3_is (w : List (List UInt8)) (hw : ∀ x ∈ w, x.length ≤ 1048576) (hl : w.length ≤ 1048573) : FnIs Tryz.prog 130 [.d (.arr 1 strD w)] [] (opR (opW ([51] :: [48] :: [45] :: w)).1 (opW ([51] :: [48] :: [45] :: w)).2) [] := by
 have hc := concat_as [[[51], [48], [45]], w] ([51] :: [48] :: [45] :: w) (by simp) (by simp) (by simp; omega) (by simp)
 have ho := operation_is ([51] :: [48] :: [45] :: w) (by
  intro x hx
  simp only [List.mem_cons] at hx
  rcases hx with rfl | rfl | rfl | hx
  ·decide
  ·decide
  ·decide
  ·exact hw x hx)
 refine fnIs_of tab_ok Tryz.func130 rfl rfl rfl ?_;refine sR ?_;refine rN ?_;refine rC ?_;refine nR ?_;refine reg_new (build_slice (s := 1) tab_ok rfl rfl rfl rfl rfl rfl rfl rfl) rfl ?_
 refine rC ?_;refine reg_freeze (env' := [(4, _), (2, _), (5, _)]) (h' := [(64, some _)]) 80 _ rfl ⟨⟨_, rfl, Frz.litsN (t := 9) (s := 1) (m := 3) (ex := true) (enc := strD) [[51], [48], [45]] rfl (fun _ _ => rfl)⟩, ⟨_, rfl, .refl _⟩, ⟨_, rfl, .refl _⟩, trivial⟩ ⟨⟨rfl, _, rfl, .refl _⟩, trivial⟩ ?_
 refine reg_new (build_slice (s := 1) tab_ok rfl rfl rfl rfl rfl rfl rfl rfl) rfl ?_;refine reg_freeze (env' := [(6, _), (2, _)]) (h' := [(64, some _)]) 96 _ rfl ⟨⟨_, rfl, Frz.lits2 (enc := encWs) [[51], [48], [45]] w rfl rfl rfl rfl⟩, ⟨_, rfl, .refl _⟩, trivial⟩ ⟨⟨rfl, _, rfl, .refl _⟩, trivial⟩ ?_
 refine rQ (call_r hc rfl rfl (arg_e arg_nil) (.inl rfl) (fun _ => rfl)) ?_;refine rQ (call_r ho rfl rfl (arg_e arg_nil) (.inl rfl) (fun _ => rfl)) ?_;iterate 2 refine rC ?_
 refine rW ?_;refine rC ?_;refine nS ?_;refine wc_ret ?_
 exact ⟨trivial, _, rfl, [], lf⟩
end Go.Proofs.YtmojbghcngdkpaaGreatDoor
namespace Go.Eng
open Go.RowKit
section
variable {P : Program} {T : Tab} {env : Env} {h : Upds} {n : Nat}
theorem insert_new {t kt et : TypeId} {κ : Type} [DecidableEq κ] {enc : κ → D} {m r : Nat} {x y z : Operand} {k : κ} {l : List (κ × AV)} {v : AV} (K : KeyTy P kt enc m) (ht : P.underlying t = some (.map kt et))
  (hx : evalA env x = some (.mapr r)) (hy : evalA env y = some (.d (enc k))) (hz : evalA env z = some v) (hr : lookH h r = some (.mo (mapC enc l))) (hf : findC k l 0 = none) :
  StepIs P (.insert t x y z) env h n none [(r, some (.mo (mapC enc (l ++ [(k, v)]))))] := .of_comes fun C G st σ w a o ho hA hd hst hn => by
 have h1 := (ev_sound hst (hA.ev hx)).1
 have h2 := (ev_sound hst (hA.ev hy)).1
 obtain ⟨h3, h4⟩ := ev_sound hst (hA.ev hz)
 have hrow := hA.row _ _ hr
 obtain ⟨b, c, hs, hux⟩ := RelV.mapr.1 h1
 obtain ⟨b', es, hb1, hb2, hb3, hb4⟩ := hst.rows r _ hrow
 rw [hs] at hb2
 cases hb2
 have hl := (mapC_rel l _).1 hb4
 have hin : (mapC enc l).within G := (hst.rowsG r _ hrow).2
 have hfd := K.found h2 hl
 rw [hf] at hfd
 have hst' := hst.writeObj (o' := .map (es.push { key := a.eval y, val := a.eval z, born := es.size }) (es.size + 1)) (row := .mo (mapC enc (l ++ [(k, v)]))) hrow hs hb3 rfl
  ((mapC_within _).2 fun p hp => by
   rcases List.mem_append.1 hp with hp | hp
   ·exact (mapC_within l).1 hin p hp
   ·rw [List.mem_singleton.1 hp]; exact h4)
  (fun w' ht' hh' => ⟨b, es.push { key := a.eval y, val := a.eval z, born := es.size }, fun i e he => by
   rw [Array.getElem?_push] at he
   split at he
   ·rename_i hi; subst hi; cases he; rfl
   ·exact hb1 i e he, hs, by rw [Array.size_push]; exact hh', (mapC_rel _ _).2 (by
    rw [Array.toList_push]
    exact EntRel.snoc (RelV.carry (G := G) ht' trivial h2) (RelV.carry (G := G) ht' h4 h3) l _ (EntRel.mono ht' hin hl))⟩)
 refine ⟨none, _, .skip, undef, { w with heap := w.heap.setIfInBounds b (.map (es.push { key := a.eval y, val := a.eval z, born := es.size }) (es.size + 1)) }, σ, G, ⟨rfl, rfl⟩, ?_, .inr ⟨rfl, rfl⟩, ?_, fun _ h => h, fun _ h => .inl h⟩
 ·have hget : (getObj b).run P w = .ok (.map es es.size) w := by simp [getObj, Sem.run, hb3]
  have hset := run_setObj P w b (.map (es.push { key := a.eval y, val := a.eval z, born := es.size }) (es.size + 1)) hb3
  simp only [execOp, ho, Instr.mapUpdate, hux, Sem.run_bind, run_underlying ht, hget, Result.andThen_ok, K.check h2, hfd, hset, Sem.run_pure]
 ·rw [St.put_upd]
  exact hst'.set hd (v := none) (undef_rel _ _ _) trivial
end
end Go.Eng
namespace Go.Proofs.YtmojbghcngdkpaaGreatDoor
open Go.Eng Go.Plain
set_option maxHeartbeats 4000000
set_option maxRecDepth 20000
attribute [local irreducible] WC RegS RegD SeqQ BlkQ ScoQ RegK CutK Sat SatN FnIs LoopQ StepIs OpIs
abbrev fnA (f : Nat) : AV := .fn (.func f) .anil .anil
def knownL : List (List UInt8 × AV) := [(sRead, fnA 126), (sWrite, fnA 129), (sFlush, fnA 130), (sOp, fnA 127)]
theorem key_str : KeyTy Tryz.prog 9 (fun l : List UInt8 => strD l) 1 := keyTy_string Tryz.underlying9
theorem readers_is : FnIs Tryz.prog 92 [] [] (.mapr 64) [(64, .mo (mapC strD knownL))] := by
 refine fnIs_of tab_ok Tryz.func92 rfl rfl rfl ?_;refine sR ?_;refine rC ?_;refine nR ?_;refine reg_new (make_map) rfl ?_;refine reg_do rfl (insert_new (κ := List UInt8) (enc := strD) (l := knownL.take 0) (k := sRead) key_str Tryz.underlying154 rfl rfl rfl rfl rfl) rfl rfl ?_
 refine reg_do rfl (insert_new (κ := List UInt8) (enc := strD) (l := knownL.take 1) (k := sWrite) key_str Tryz.underlying154 rfl rfl rfl rfl rfl) rfl rfl ?_;refine reg_do rfl (insert_new (κ := List UInt8) (enc := strD) (l := knownL.take 2) (k := sFlush) key_str Tryz.underlying154 rfl rfl rfl rfl rfl) rfl rfl ?_
 refine reg_do rfl (insert_new (κ := List UInt8) (enc := strD) (l := knownL.take 3) (k := sOp) key_str Tryz.underlying154 rfl rfl rfl rfl rfl) rfl rfl ?_;iterate 2 refine rC ?_
 refine nS ?_;refine wc_ret ?_
 exact ⟨trivial, [(64, some 72)], .of rfl rfl rfl rfl rfl ⟨⟨_, rfl, AVLe.of_eq rfl⟩, rfl, trivial⟩ ⟨⟨rfl, rfl, _, rfl, .refl _⟩, trivial⟩⟩
end Go.Proofs.YtmojbghcngdkpaaGreatDoor
namespace Go.Eng
open Go.RowKit
section
variable {P : Program} {T : Tab} {env : Env} {h : Upds} {n : Nat}
theorem slice_clip_arr (hT : TabOk P T) {t e : Nat} {re : TyR} {x i j : Operand} {α : Type} {s : Nat} {enc : α → D} {xs : List α} {k k' : IntKind} (ht : tdesc T t = some (.slice e)) (he : lk T e = some re)
  (hx : evalA env x = some (.d (.arr s enc xs))) (hi : evalA env i = some (.int k xs.length)) (hj : evalA env j = some (.int k' xs.length)) : StepIs P (.slice t x none (some i) (some j)) env h n (some (.d (.arx s enc xs))) [] := .of_comes fun C G st σ w a o ho hA hdst hst hn => by
 obtain ⟨ud, hud, hdd⟩ := tdesc_und hT ht
 cases hdd
 obtain ⟨hx1, _⟩ := ev_sound hst (hA.ev hx)
 obtain ⟨hi1, _⟩ := RelV.sc.1 (ev_sound hst (hA.ev hi)).1
 obtain ⟨hj1, _⟩ := RelV.sc.1 (ev_sound hst (hA.ev hj)).1
 have hsz := (hT e re he).run_size (P := P)
 rcases RelV.arr.1 hx1 with ⟨rfl, hv⟩ | ⟨ad, c, hv, hc1, hc2, f, hf⟩
 ·refine .quiet (u := .slice none 0 0) hst hdst ⟨rfl, rfl⟩ ?_ (RelV.arx.2 (.inl ⟨rfl, _, rfl⟩)) trivial
  simp [execOp, ho, Instr.sliceAt, Instr.slice, hv, hi1, hj1, run_underlying hud, Instr.sliceBounds, Instr.sliceBound, asIntOf, hsz, Sem.run_bind, Sem.run_pure, Result.andThen_ok]
 ·refine .quiet (u := .slice (some ad) xs.length xs.length) hst hdst ⟨rfl, rfl⟩ ?_ (RelV.arx.2 (.inr ⟨ad, rfl, by omega, f, hf⟩)) trivial
  have hle : (xs.length : Int) ≤ (c : Int) := by omega
  simp [execOp, ho, Instr.sliceAt, Instr.slice, hv, hi1, hj1, run_underlying hud, Instr.sliceBounds, Instr.sliceBound, asIntOf, hsz, Sem.run_bind, Sem.run_pure, Result.andThen_ok, hc1, Addr.add_zero']
end
end Go.Eng
namespace Go.Proofs.YtmojbghcngdkpaaGreatDoor
open Go.Eng Go.Plain
set_option maxHeartbeats 4000000
attribute [local irreducible] WC RegS RegD SeqQ BlkQ ScoQ RegK CutK Sat SatN FnIs LoopQ StepIs OpIs
theorem clone_ne (l : List POp) (hp : 0 < l.length) (hlen : l.length ≤ 1048576) : FnIs Tryz.prog 96 [.d (encP l)] [] (.own 64 0 l.length 3 none) [(64, .ds 50 3 false encPOp l)] := by
 refine fnIs_of tab_ok Tryz.func96 rfl rfl rfl ?_;refine sR ?_;refine rC ?_;refine nQ ?_;refine sR ?_;refine rC ?_;refine rQ (eql_nil tab_ok rfl rfl rfl hp) ?_;refine nS ?_
 refine wG ?_;refine kS ?_;refine sR ?_;refine rQ (build_empty tab_ok rfl rfl) ?_;refine rC ?_;refine reg_new (append_empty_arr tab_ok rfl rfl rfl rfl rfl (.inl rfl) rfl hp hlen rfl) rfl ?_
 refine rC ?_;refine nS ?_;refine wc_ret ?_
 exact ⟨trivial, [(64, some 104)], .of rfl rfl rfl rfl rfl ⟨⟨_, rfl, AVLe.of_eq rfl⟩, rfl, trivial⟩ ⟨⟨rfl, rfl, _, rfl, .refl _⟩, trivial⟩⟩
theorem clone_e : FnIs Tryz.prog 96 [.d (encP [])] [] (.d (encP [])) [] := by
 refine FnIs.split_arr ?_ ?_
 ·refine fnIs_of tab_ok Tryz.func96 rfl rfl rfl ?_;refine sR ?_;refine rC ?_;refine nQ ?_;refine sR ?_;refine rC ?_;refine rQ (eql_nn tab_ok rfl rfl rfl) ?_;refine nS ?_
  refine wV ?_;refine sR ?_;refine rC ?_;refine nS ?_;refine wc_ret ?_;refine seq_r ?_
  exact ⟨trivial, [], .of rfl rfl rfl rfl rfl ⟨⟨_, rfl, nil_arr _ _⟩, rfl, trivial⟩ trivial⟩
 ·rintro ⟨a, c⟩
  refine fnIs_of tab_ok Tryz.func96 rfl rfl rfl ?_;refine sR ?_;refine rC ?_;refine nQ ?_;refine sR ?_;refine rC ?_;refine rQ (eql_snil tab_ok rfl rfl rfl) ?_;refine nS ?_
  refine wG ?_;refine kS ?_;refine sR ?_;refine rQ (build_empty tab_ok rfl rfl) ?_;refine rC ?_;refine rQ (append_e_e tab_ok rfl rfl rfl rfl) ?_;refine rC ?_;refine nS ?_
  refine wc_ret ?_
  exact ⟨trivial, [], .of rfl rfl rfl rfl rfl ⟨⟨_, rfl, AVLe.empty_arr _ _⟩, rfl, trivial⟩ trivial⟩
theorem clone_is (l : List POp) (hlen : l.length ≤ 1048576) : FnIs Tryz.prog 96 [.d (encP l)] [] (.d (encP l)) [] := by
 cases l with
 | nil => exact clone_e
 | cons a l => exact (clone_ne (a :: l) (by simp) hlen).freeze_out 64 _ rfl (Frz.own rfl) trivial
abbrev encXP (p : List POp) : D := .arx 3 encPOp p
abbrev encXL (l : List (List POp)) : D := .arr 1 encXP l
theorem clones_ne (l : List (List POp)) (hp : 0 < l.length) (hlen : l.length ≤ 1048576) : FnIs Tryz.prog 98 [.d (encXL l)] [] (.own 64 0 l.length 1 none) [(64, .ds 77 1 false encXP l)] := by
 refine fnIs_of tab_ok Tryz.func98 rfl rfl rfl ?_;refine sR ?_;refine rC ?_;refine nQ ?_;refine sR ?_;refine rC ?_;refine rQ (eql_nil tab_ok rfl rfl rfl hp) ?_;refine nS ?_
 refine wG ?_;refine kS ?_;refine sR ?_;refine rQ (build_empty tab_ok rfl rfl) ?_;refine rC ?_;refine reg_new (append_empty_arr tab_ok rfl rfl rfl rfl rfl (.inl rfl) rfl hp hlen rfl) rfl ?_
 refine rC ?_;refine nS ?_;refine wc_ret ?_
 exact ⟨trivial, [(64, some 104)], .of rfl rfl rfl rfl rfl ⟨⟨_, rfl, AVLe.of_eq rfl⟩, rfl, trivial⟩ ⟨⟨rfl, rfl, _, rfl, .refl _⟩, trivial⟩⟩
theorem clones_e : FnIs Tryz.prog 98 [.d (encXL [])] [] (.d (encXL [])) [] := by
 refine FnIs.split_arr ?_ ?_
 ·refine fnIs_of tab_ok Tryz.func98 rfl rfl rfl ?_;refine sR ?_;refine rC ?_;refine nQ ?_;refine sR ?_;refine rC ?_;refine rQ (eql_nn tab_ok rfl rfl rfl) ?_;refine nS ?_
  refine wV ?_;refine sR ?_;refine rC ?_;refine nS ?_;refine wc_ret ?_;refine seq_r ?_
  exact ⟨trivial, [], .of rfl rfl rfl rfl rfl ⟨⟨_, rfl, nil_arr _ _⟩, rfl, trivial⟩ trivial⟩
 ·rintro ⟨a, c⟩
  refine fnIs_of tab_ok Tryz.func98 rfl rfl rfl ?_;refine sR ?_;refine rC ?_;refine nQ ?_;refine sR ?_;refine rC ?_;refine rQ (eql_snil tab_ok rfl rfl rfl) ?_;refine nS ?_
  refine wG ?_;refine kS ?_;refine sR ?_;refine rQ (build_empty tab_ok rfl rfl) ?_;refine rC ?_;refine rQ (append_e_e tab_ok rfl rfl rfl rfl) ?_;refine rC ?_;refine nS ?_
  refine wc_ret ?_
  exact ⟨trivial, [], .of rfl rfl rfl rfl rfl ⟨⟨_, rfl, AVLe.empty_arr _ _⟩, rfl, trivial⟩ trivial⟩
theorem clones_is (l : List (List POp)) (hlen : l.length ≤ 1048576) : FnIs Tryz.prog 98 [.d (encXL l)] [] (.d (encXL l)) [] := by
 cases l with
 | nil => exact clones_e
 | cons a l => exact (clones_ne (a :: l) (by simp) hlen).freeze_out 64 _ rfl (Frz.own rfl) trivial
theorem clip_is (l : List POp) : FnIs Tryz.prog 95 [.d (encP l)] [] (.d (encXP l)) [] := by
 refine fnIs_of tab_ok Tryz.func95 rfl rfl rfl ?_;refine sR ?_;refine rC ?_;refine nR ?_;iterate 2 refine rC ?_
 refine rQ iE ?_;refine rC ?_;refine rQ iE ?_;refine rQ (slice_clip_arr tab_ok rfl rfl rfl rfl rfl) ?_;refine rC ?_;refine nS ?_;refine wc_ret ?_
 exact ⟨trivial, [], lf⟩
theorem clips_is (l : List (List POp)) : FnIs Tryz.prog 97 [.d (encXL l)] [] (.d (.arx 1 encXP l)) [] := by
 refine fnIs_of tab_ok Tryz.func97 rfl rfl rfl ?_;refine sR ?_;refine rC ?_;refine nR ?_;iterate 2 refine rC ?_
 refine rQ iE ?_;refine rC ?_;refine rQ iE ?_;refine rQ (slice_clip_arr tab_ok rfl rfl rfl rfl rfl) ?_;refine rC ?_;refine nS ?_;refine wc_ret ?_
 exact ⟨trivial, [], lf⟩
theorem ixop_is {α : Type} (enc : α → D) (hsz : ∀ x, sizeOk tab 50 (.d (enc x)) = true) (p : α → Bool) (g : FuncId) (xs : List α) (hL : xs.length ≤ 1000000000) (hg : ∀ x ∈ xs, FnIs Tryz.prog g [.d (enc x)] [] (.bool (p x)) []) : FnIs Tryz.prog 122 [.d (.arr 3 enc xs), .fn (.func g) .anil .anil] [] (.int .i64 (idxF p xs)) [] := by
 refine fnIs_of tab_ok Tryz.func122 rfl rfl rfl ?_;refine sR ?_;refine rC ?_;refine nQ ?_;refine sR ?_;refine rC ?_;refine rQ iE ?_;refine rC ?_;refine nS ?_;refine wc_block ?_
 refine wc_inv (fun i : Nat => ⟨[(8, .int .i64 i), (7, .int .i64 xs.length), (1, .fn (.func g) .anil .anil), (0, .d (.arr 3 enc xs))], [], 72, Tryz.f122.ntmps, 64⟩) (fun i => i ≤ xs.length ∧ ∀ j, j < i → ∀ y, xs[j]? = some y → p y = false) (fun i => xs.length - i) 0 [] ⟨Nat.zero_le _, fun j hj => absurd hj (Nat.not_lt_zero _)⟩
  (.of rfl rfl rfl rfl rfl ⟨⟨_, rfl, .refl _⟩, rfl, ⟨_, rfl, .refl _⟩, rfl, ⟨_, rfl, .refl _⟩, rfl, ⟨_, rfl, .refl _⟩, rfl, trivial⟩ trivial) ?_
 rintro i ⟨hi, hno⟩
 refine wc_of ?_;refine sR ?_;refine rC ?_;refine nQ ?_
 refine wc_cond rfl (fun h2 => ?_) (fun h2 => ?_)
 ·have hlt : i < xs.length := by have := of_decide_eq_true h2; omega
  obtain ⟨x, hx⟩ : ∃ u, xs[i]? = some u := ⟨_, List.getElem?_eq_getElem hlt⟩
  have hx' : xs[((i : Int)).toNat]? = some x := by rw [Int.toNat_natCast]; exact hx
  have hpx := hg x (List.mem_of_getElem? hx)
  have hs := hsz x
  cases hp : p x with
  | true =>
   refine kS ?_;refine wc_seq ?_;refine wc_block ?_;refine sR ?_;iterate 2 refine rC ?_
   refine nR ?_;iterate 3 refine rC ?_
   refine rQ (index_arr tab_ok rfl rfl rfl rfl rfl (by omega) hx') ?_;refine rQ (load_i tab_ok rfl hs) ?_;refine rQ (call_r hpx rfl rfl (arg_e arg_nil) (.inl rfl) (fun _ => rfl)) ?_
   refine nS ?_;refine wT ?_;refine sR ?_;iterate 2 refine rC ?_
   refine nS ?_;refine wc_ret ?_;refine blk_r ?_;refine seq_r ?_;refine loop_r ?_;refine blk_r ?_;refine seq_r ?_
   exact ⟨trivial, [], .of rfl rfl rfl rfl rfl ⟨⟨_, rfl, AVLe.of_eq (by rw [idxF_some hx hp hno]; rfl)⟩, rfl, trivial⟩ trivial⟩
  | false =>
   refine kS ?_;refine wc_seq ?_;refine wc_block ?_;refine sR ?_;iterate 2 refine rC ?_
   refine nR ?_;iterate 3 refine rC ?_
   refine rQ (index_arr tab_ok rfl rfl rfl rfl rfl (by omega) hx') ?_;refine rQ (load_i tab_ok rfl hs) ?_;refine rQ (call_r hpx rfl rfl (arg_e arg_nil) (.inl rfl) (fun _ => rfl)) ?_
   refine nS ?_;refine wF ?_;refine wc_skip ?_;refine blk_n ?_;refine seq_n ?_;refine wc_region ?_;refine rQ iD ?_;refine rC ?_;refine reg_nil ?_;refine loop_n (i + 1) [] ⟨hlt, fun j hj y hy => ?_⟩ (by omega) ?_
   ·by_cases e : j = i
    ·subst e
     rw [hx] at hy
     cases hy
     exact hp
    ·exact hno j (by omega) y hy
   ·exact .of rfl rfl rfl rfl rfl ⟨⟨_, rfl, .refl _⟩, rfl, ⟨_, rfl, .refl _⟩, rfl, ⟨_, rfl, .refl _⟩, rfl, ⟨_, rfl, .refl _⟩, rfl, trivial⟩ trivial
 ·have he : i = xs.length := by have := of_decide_eq_false h2; omega
  refine wc_exit ?_;refine seq_x ?_;refine loop_x ?_;refine blk_x ?_;refine seq_n ?_;refine sR ?_;refine rC ?_;refine nS ?_;refine wc_ret ?_
  exact ⟨trivial, [], .of rfl rfl rfl rfl rfl ⟨⟨_, rfl, AVLe.of_eq (by
   rw [idxF_none fun j y hy => hno j (by have := (List.getElem?_eq_some_iff.1 hy).1; omega) y hy]
   rfl)⟩, rfl, trivial⟩ trivial⟩
theorem ixopc_is {α : Type} (enc : α → D) (hsz : ∀ x, sizeOk tab 50 (.d (enc x)) = true) (p : α → Bool) (g : FuncId) (xs : List α) (hL : xs.length ≤ 1000000000) (hg : ∀ x ∈ xs, FnIs Tryz.prog g [.d (enc x)] [] (.bool (p x)) []) : FnIs Tryz.prog 82 [.d (.arr 3 enc xs), .fn (.func g) .anil .anil] [] (.bool (xs.any p)) [] := by
 refine fnIs_of tab_ok Tryz.func82 rfl rfl rfl ?_;refine sR ?_;refine rC ?_;refine nR ?_;iterate 2 refine rC ?_
 refine rQ (call_r (ixop_is enc hsz p g xs hL hg) rfl rfl (arg_e (arg_fn arg_nil)) (.inl rfl) (fun _ => rfl)) ?_;iterate 2 refine rC ?_
 refine nS ?_;refine wc_ret ?_
 exact ⟨trivial, [], .of rfl rfl rfl rfl rfl ⟨⟨_, rfl, AVLe.of_eq (by rw [← idxF_any]; rfl)⟩, rfl, trivial⟩ trivial⟩
theorem ixp_is {α : Type} (enc : α → D) (hsz : ∀ x, sizeOk tab 77 (.d (enc x)) = true) (p : α → Bool) (g : FuncId) (xs : List α) (hL : xs.length ≤ 1000000000) (hg : ∀ x ∈ xs, FnIs Tryz.prog g [.d (enc x)] [] (.bool (p x)) []) : FnIs Tryz.prog 123 [.d (.arr 1 enc xs), .fn (.func g) .anil .anil] [] (.int .i64 (idxF p xs)) [] := by
 refine fnIs_of tab_ok Tryz.func123 rfl rfl rfl ?_;refine sR ?_;refine rC ?_;refine nQ ?_;refine sR ?_;refine rC ?_;refine rQ iE ?_;refine rC ?_;refine nS ?_;refine wc_block ?_
 refine wc_inv (fun i : Nat => ⟨[(8, .int .i64 i), (7, .int .i64 xs.length), (1, .fn (.func g) .anil .anil), (0, .d (.arr 1 enc xs))], [], 72, Tryz.f123.ntmps, 64⟩) (fun i => i ≤ xs.length ∧ ∀ j, j < i → ∀ y, xs[j]? = some y → p y = false) (fun i => xs.length - i) 0 [] ⟨Nat.zero_le _, fun j hj => absurd hj (Nat.not_lt_zero _)⟩
  (.of rfl rfl rfl rfl rfl ⟨⟨_, rfl, .refl _⟩, rfl, ⟨_, rfl, .refl _⟩, rfl, ⟨_, rfl, .refl _⟩, rfl, ⟨_, rfl, .refl _⟩, rfl, trivial⟩ trivial) ?_
 rintro i ⟨hi, hno⟩
 refine wc_of ?_;refine sR ?_;refine rC ?_;refine nQ ?_
 refine wc_cond rfl (fun h2 => ?_) (fun h2 => ?_)
 ·have hlt : i < xs.length := by have := of_decide_eq_true h2; omega
  obtain ⟨x, hx⟩ : ∃ u, xs[i]? = some u := ⟨_, List.getElem?_eq_getElem hlt⟩
  have hx' : xs[((i : Int)).toNat]? = some x := by rw [Int.toNat_natCast]; exact hx
  have hpx := hg x (List.mem_of_getElem? hx)
  have hs := hsz x
  cases hp : p x with
  | true =>
   refine kS ?_;refine wc_seq ?_;refine wc_block ?_;refine sR ?_;iterate 2 refine rC ?_
   refine nR ?_;iterate 3 refine rC ?_
   refine rQ (index_arr tab_ok rfl rfl rfl rfl rfl (by omega) hx') ?_;refine rQ (load_i tab_ok rfl hs) ?_;refine rQ (call_r hpx rfl rfl (arg_e arg_nil) (.inl rfl) (fun _ => rfl)) ?_
   refine nS ?_;refine wT ?_;refine sR ?_;iterate 2 refine rC ?_
   refine nS ?_;refine wc_ret ?_;refine blk_r ?_;refine seq_r ?_;refine loop_r ?_;refine blk_r ?_;refine seq_r ?_
   exact ⟨trivial, [], .of rfl rfl rfl rfl rfl ⟨⟨_, rfl, AVLe.of_eq (by rw [idxF_some hx hp hno]; rfl)⟩, rfl, trivial⟩ trivial⟩
  | false =>
   refine kS ?_;refine wc_seq ?_;refine wc_block ?_;refine sR ?_;iterate 2 refine rC ?_
   refine nR ?_;iterate 3 refine rC ?_
   refine rQ (index_arr tab_ok rfl rfl rfl rfl rfl (by omega) hx') ?_;refine rQ (load_i tab_ok rfl hs) ?_;refine rQ (call_r hpx rfl rfl (arg_e arg_nil) (.inl rfl) (fun _ => rfl)) ?_
   refine nS ?_;refine wF ?_;refine wc_skip ?_;refine blk_n ?_;refine seq_n ?_;refine wc_region ?_;refine rQ iD ?_;refine rC ?_;refine reg_nil ?_;refine loop_n (i + 1) [] ⟨hlt, fun j hj y hy => ?_⟩ (by omega) ?_
   ·by_cases e : j = i
    ·subst e
     rw [hx] at hy
     cases hy
     exact hp
    ·exact hno j (by omega) y hy
   ·exact .of rfl rfl rfl rfl rfl ⟨⟨_, rfl, .refl _⟩, rfl, ⟨_, rfl, .refl _⟩, rfl, ⟨_, rfl, .refl _⟩, rfl, ⟨_, rfl, .refl _⟩, rfl, trivial⟩ trivial
 ·have he : i = xs.length := by have := of_decide_eq_false h2; omega
  refine wc_exit ?_;refine seq_x ?_;refine loop_x ?_;refine blk_x ?_;refine seq_n ?_;refine sR ?_;refine rC ?_;refine nS ?_;refine wc_ret ?_
  exact ⟨trivial, [], .of rfl rfl rfl rfl rfl ⟨⟨_, rfl, AVLe.of_eq (by
   rw [idxF_none fun j y hy => hno j (by have := (List.getElem?_eq_some_iff.1 hy).1; omega) y hy]
   rfl)⟩, rfl, trivial⟩ trivial⟩
theorem ixpc_is {α : Type} (enc : α → D) (hsz : ∀ x, sizeOk tab 77 (.d (enc x)) = true) (p : α → Bool) (g : FuncId) (xs : List α) (hL : xs.length ≤ 1000000000) (hg : ∀ x ∈ xs, FnIs Tryz.prog g [.d (enc x)] [] (.bool (p x)) []) : FnIs Tryz.prog 84 [.d (.arr 1 enc xs), .fn (.func g) .anil .anil] [] (.bool (xs.any p)) [] := by
 refine fnIs_of tab_ok Tryz.func84 rfl rfl rfl ?_;refine sR ?_;refine rC ?_;refine nR ?_;iterate 2 refine rC ?_
 refine rQ (call_r (ixp_is enc hsz p g xs hL hg) rfl rfl (arg_e (arg_fn arg_nil)) (.inl rfl) (fun _ => rfl)) ?_;iterate 2 refine rC ?_
 refine nS ?_;refine wc_ret ?_
 exact ⟨trivial, [], .of rfl rfl rfl rfl rfl ⟨⟨_, rfl, AVLe.of_eq (by rw [← idxF_any]; rfl)⟩, rfl, trivial⟩ trivial⟩
theorem long_op (o : POp) : FnIs Tryz.prog 83 [.d (encPOp o)] [] (.bool (decide (64 < o.data.length))) [] := by
 have e : decide ((64 : Int) < ((byI o.data).length : Int)) = decide (64 < o.data.length) := by rw [byI_len]; exact decide_eq_decide.2 (by omega)
 refine fnIs_of tab_ok Tryz.func83 rfl rfl rfl ?_;refine sR ?_;refine rN ?_;refine rC ?_;refine nR ?_;refine rC ?_;refine rQ iB ?_;refine rQ iE ?_;iterate 2 refine rC ?_
 refine nS ?_;refine wc_ret ?_
 exact ⟨trivial, [], .of rfl rfl rfl rfl rfl ⟨⟨_, rfl, AVLe.of_eq (congrArg (fun b => AV.bool b) e)⟩, rfl, trivial⟩ trivial⟩
theorem long_p (p : List POp) (hL : p.length ≤ 1000000000) : FnIs Tryz.prog 81 [.d (encP p)] [] (.bool (badP p)) [] := by
 have e : decide ((64 : Int) < (p.length : Int)) = decide (64 < p.length) := decide_eq_decide.2 (by omega)
 refine fnIs_of tab_ok Tryz.func81 rfl rfl rfl ?_
 cases h : decide ((64 : Int) < (p.length : Int)) with
 | true =>
  rw [h] at e
  refine sR ?_;refine rC ?_;refine nR ?_;refine rC ?_;refine rQ iE ?_;iterate 2 refine rC ?_
  iterate 2 refine rS ?_
  refine rQ iT ?_;refine rC ?_;refine nS ?_;refine wc_ret ?_
  exact ⟨trivial, [], .of rfl rfl rfl rfl rfl ⟨⟨_, rfl, AVLe.of_eq (by rw [badP, ← e]; rfl)⟩, rfl, trivial⟩ trivial⟩
 | false =>
  rw [h] at e
  refine sR ?_;refine rC ?_;refine nR ?_;refine rC ?_;refine rQ iE ?_;iterate 2 refine rC ?_
  refine rO ?_;refine rC ?_;refine rO ?_;refine rQ (call_r (ixopc_is encPOp (fun _ => rfl) (fun o => decide (64 < o.data.length)) _ p hL (fun o _ => long_op o)) rfl rfl (arg_e (arg_fn arg_nil)) (.inl rfl) (fun _ => rfl)) ?_
  refine rQ iF ?_;refine rC ?_;refine nS ?_;refine wc_ret ?_
  exact ⟨trivial, [], .of rfl rfl rfl rfl rfl ⟨⟨_, rfl, AVLe.of_eq (by rw [badP, ← e]; rfl)⟩, rfl, trivial⟩ trivial⟩
theorem check_is (l : List (List POp)) (hL : l.length ≤ 1000000000) (hP : ∀ p ∈ l, p.length ≤ 1000000000) : FnIs Tryz.prog 38 [.d (encPL l)] [] (.int .i64 (chkP l)) [] := by
 refine fnIs_of tab_ok Tryz.func38 rfl rfl rfl ?_
 cases h : decide ((8 : Int) < (l.length : Int)) with
 | true =>
  have h8 : 8 < l.length := by have := of_decide_eq_true h; omega
  refine sR ?_;refine rC ?_;refine nR ?_;refine rC ?_;refine nQ ?_;refine sR ?_;refine rC ?_;refine rQ iE ?_;iterate 2 refine rC ?_
  iterate 3 refine rS ?_
  refine rQ iT ?_;refine nS ?_;refine wV ?_;refine sR ?_;refine rC ?_;refine nS ?_;refine wc_ret ?_;refine seq_r ?_
  exact ⟨trivial, [], .of rfl rfl rfl rfl rfl ⟨⟨_, rfl, AVLe.of_eq (by rw [chkP, if_pos h8]; rfl)⟩, rfl, trivial⟩ trivial⟩
 | false =>
  have h8 : ¬ 8 < l.length := by have := of_decide_eq_false h; omega
  cases hb : l.any badP with
  | true =>
   refine sR ?_;refine rC ?_;refine nR ?_;refine rC ?_;refine nQ ?_;refine sR ?_;refine rC ?_;refine rQ iE ?_;iterate 2 refine rC ?_
   refine rO ?_;refine rC ?_;refine rO ?_;refine rC ?_;refine rO ?_;refine rQ (call_r (ixpc_is encP (fun _ => rfl) badP _ l hL (fun p hp => long_p p (hP p hp))) rfl rfl (arg_e (arg_fn arg_nil)) (.inl rfl) (fun _ => rfl)) ?_
   refine rQ iF ?_;refine nS ?_;refine wT ?_;refine sR ?_;refine rC ?_;refine nS ?_;refine wc_ret ?_;refine seq_r ?_
   exact ⟨trivial, [], .of rfl rfl rfl rfl rfl ⟨⟨_, rfl, AVLe.of_eq (by rw [chkP, if_neg h8, if_pos hb]; rfl)⟩, rfl, trivial⟩ trivial⟩
  | false =>
   refine sR ?_;refine rC ?_;refine nR ?_;refine rC ?_;refine nQ ?_;refine sR ?_;refine rC ?_;refine rQ iE ?_;iterate 2 refine rC ?_
   refine rO ?_;refine rC ?_;refine rO ?_;refine rC ?_;refine rO ?_;refine rQ (call_r (ixpc_is encP (fun _ => rfl) badP _ l hL (fun p hp => long_p p (hP p hp))) rfl rfl (arg_e (arg_fn arg_nil)) (.inl rfl) (fun _ => rfl)) ?_
   refine rQ iF ?_;refine nS ?_;refine wF ?_;refine kS ?_;refine sR ?_;refine rC ?_;refine nS ?_;refine wc_ret ?_
   exact ⟨trivial, [], .of rfl rfl rfl rfl rfl ⟨⟨_, rfl, AVLe.of_eq (by rw [chkP, if_neg h8, if_neg (by rw [hb]; simp)]; rfl)⟩, rfl, trivial⟩ trivial⟩
end Go.Proofs.YtmojbghcngdkpaaGreatDoor
namespace Go.Proofs.YtmojbghcngdkpaaGreatDoor
open Go.Eng Go.Plain
set_option maxHeartbeats 4000000
set_option maxRecDepth 20000
attribute [local irreducible] WC RegS RegD SeqQ BlkQ ScoQ RegK CutK Sat SatN FnIs LoopQ StepIs OpIs
def Bd (l : List (List POp)) : Prop := l.length ≤ 1000000000 ∧ ∀ p ∈ l, p.length ≤ 1000000000
theorem bd_chk {l : List (List POp)} (h : chkP l = 0) : Bd l := by
 obtain ⟨h1, h2⟩ := chkP_ok.1 h
 refine ⟨by omega, fun p hp => ?_⟩
 have := h2 p hp
 simp only [badP, Bool.or_eq_false_iff, decide_eq_false_iff_not] at this
 omega
def partT (l : List (List POp)) (i : Nat) (p : List POp) (j : Nat) : List UInt8 := textP (l.take i) ++ (sClient ++ 10 :: opsT (p.take j))
theorem partT_zero (l : List (List POp)) (i : Nat) (p : List POp) : partT l i p 0 = textP (l.take i) ++ (sClient ++ [10]) := by simp [partT, opsT]
theorem partT_go {l : List (List POp)} {i j : Nat} {p : List POp} {o : POp} (ho : p[j]? = some o) : partT l i p j ++ (lineP o ++ [10]) = partT l i p (j + 1) := by
 rw [partT, partT, List.take_add_one, ho, Option.toList_some, opsT_snoc]
 simp
theorem partT_end {l : List (List POp)} {i : Nat} {p : List POp} (hp : l[i]? = some p) : partT l i p p.length = textP (l.take (i + 1)) := by
 rw [partT, List.take_length, List.take_add_one, hp, Option.toList_some, textP_snoc]
theorem textP_app (a b : List (List POp)) : textP (a ++ b) = textP a ++ textP b := by simp [textP]
theorem textP_le (l : List (List POp)) (i : Nat) : (textP (l.take i)).length ≤ (textP l).length := by
 have := congrArg List.length (textP_app (l.take i) (l.drop i))
 rw [List.take_append_drop, List.length_append] at this
 omega
theorem opsT_app (a b : List POp) : opsT (a ++ b) = opsT a ++ opsT b := by simp [opsT]
theorem opsT_le (l : List POp) (i : Nat) : (opsT (l.take i)).length ≤ (opsT l).length := by
 have := congrArg List.length (opsT_app (l.take i) (l.drop i))
 rw [List.take_append_drop, List.length_append] at this
 omega
theorem partT_le {l : List (List POp)} {i j : Nat} {p : List POp} (hp : l[i]? = some p) : (partT l i p j).length ≤ (textP l).length := by
 have h1 := textP_le l (i + 1)
 rw [← partT_end hp] at h1
 have h2 := opsT_le p j
 simp only [partT, List.length_append, List.length_cons, List.take_length] at h1 ⊢
 omega
theorem text_max {l : List (List POp)} (hok : OkL l) (hc : chkP l = 0) : (textP l).length ≤ 1048576 ∧ ∀ p ∈ l, ∀ o ∈ p, o.data.length ≤ 64 := by
 obtain ⟨h1, h2⟩ := chkP_ok.1 hc
 have hb : ∀ p ∈ l, p.length ≤ 64 ∧ ∀ o ∈ p, o.Ok ∧ o.data.length ≤ 64 := fun p hp => by
  have := h2 p hp
  simp only [badP, Bool.or_eq_false_iff, decide_eq_false_iff_not, List.any_eq_false, decide_eq_true_eq] at this
  exact ⟨by omega, fun o ho => ⟨hok p hp o ho, by have := this.2 o ho; omega⟩⟩
 have := text_len (D := 64) (N := 64) l hb
 have h3 : (7 + (51 + 2 * 64) * 64) * l.length ≤ (7 + (51 + 2 * 64) * 64) * 8 := Nat.mul_le_mul_left _ h1
 exact ⟨by omega, fun p hp o ho => ((hb p hp).2 o ho).2⟩
theorem text_bad (l : List (List POp)) (hB : Bd l) (h0 : chkP l ≠ 0) : FnIs Tryz.prog 37 [.d (encPL l)] [] (.tup (.acons (.d (strD [])) (.acons (.d (i6 (chkP l))) .anil))) [] := by
 have hC := check_is l hB.1 hB.2
 have hn : (!decide (chkP l = 0)) = true := by rw [dF h0]; rfl
 refine fnIs_of tab_ok Tryz.func37 rfl rfl rfl ?_;refine sR ?_;iterate 2 refine rC ?_
 refine nQ ?_;refine sR ?_;refine rC ?_;refine rQ (call_r hC rfl rfl (arg_e arg_nil) (.inl rfl) (fun _ => rfl)) ?_;refine rC ?_;refine nR ?_;iterate 2 refine rC ?_
 refine nS ?_;refine wT ?_;refine sR ?_;iterate 3 refine rC ?_
 refine nS ?_;refine wc_ret ?_;refine seq_r ?_
 exact ⟨trivial, [], lf⟩
theorem text_zero : FnIs Tryz.prog 37 [.d (encPL [])] [] (.tup (.acons (.d (strD [])) (.acons (.d (i6 0)) .anil))) [] := by
 have hC := check_is [] (by decide) (by simp)
 have h0 : chkP [] = 0 := rfl
 rw [h0] at hC
 refine fnIs_of tab_ok Tryz.func37 rfl rfl rfl ?_;refine sR ?_;iterate 2 refine rC ?_
 refine nQ ?_;refine sR ?_;refine rC ?_;refine rQ (call_r hC rfl rfl (arg_e arg_nil) (.inl rfl) (fun _ => rfl)) ?_;refine rC ?_;refine nR ?_;iterate 2 refine rC ?_
 refine nS ?_;refine wG ?_;refine kS ?_;refine sR ?_;refine rN ?_;refine nQ ?_;refine sR ?_;refine rC ?_;refine rQ iE ?_;refine rC ?_;refine nS ?_;refine wc_block ?_
 refine wc_once ?_;refine sR ?_;refine rC ?_;refine nQ ?_;refine wG ?_;refine wc_exit ?_;refine seq_x ?_;refine loop_x ?_;refine blk_x ?_;refine seq_n ?_;refine sR ?_
 refine reg_new (call_h [(0, some 120)] bstring_zero rfl rfl rfl (arg_ptr rfl rfl arg_nil) ⟨⟨rfl, rfl, _, _, rfl, rfl, .refl _⟩, trivial⟩ rfl rfl (.inl rfl) rfl rfl) rfl ?_
 iterate 2 refine rC ?_
 refine nS ?_;refine wc_ret ?_
 exact ⟨trivial, [], lf⟩
theorem text_some (l : List (List POp)) (hB : Bd l) (hne : l ≠ []) (h0 : chkP l = 0) (hok : OkL l) : FnIs Tryz.prog 37 [.d (encPL l)] [] (.tup (.acons (.d (strD (textP l))) (.acons (.d (i6 0)) .anil))) [] := by
 have hC := check_is l hB.1 hB.2
 obtain ⟨htm, hdm⟩ := text_max hok h0
 rw [h0] at hC
 have hl8 : l.length ≤ 8 := (chkP_ok.1 h0).1
 refine fnIs_of tab_ok Tryz.func37 rfl rfl rfl ?_;refine sR ?_;iterate 2 refine rC ?_
 refine nQ ?_;refine sR ?_;refine rC ?_;refine rQ (call_r hC rfl rfl (arg_e arg_nil) (.inl rfl) (fun _ => rfl)) ?_;refine rC ?_;refine nR ?_;iterate 2 refine rC ?_
 refine nS ?_;refine wG ?_;refine kS ?_;refine sR ?_;refine rN ?_;refine nQ ?_;refine sR ?_;refine rC ?_;refine rQ iE ?_;refine rC ?_;refine nS ?_;refine wc_block ?_
 refine wc_inv (fun i : Nat => ⟨[(17, .int .i64 i), (16, .int .i64 l.length), (15, .d (encPL l)), (5, .ptr 65 [])], [(65, some (bldRow (Nat.beq i 0) 65 66 (textP (l.take i)).length)), (66, some (rowT (textP (l.take i))))], 72, Tryz.f37.ntmps, 64⟩) (fun i => i ≤ l.length) (fun i => l.length - i) 0 [(65, some 120), (66, none)] (Nat.zero_le _)
  (.of rfl rfl rfl rfl rfl ⟨⟨_, rfl, .refl _⟩, rfl, ⟨_, rfl, .refl _⟩, rfl, ⟨_, rfl, .refl _⟩, rfl, ⟨_, rfl, .refl _⟩, rfl, trivial⟩ ⟨⟨rfl, rfl, _, rfl, RowLe.split2⟩, ⟨rfl, rfl, rfl⟩, trivial⟩) ?_
 intro i hi
 refine wc_of ?_;refine sR ?_;refine rC ?_;refine nQ ?_
 refine wc_cond rfl (fun h3 => ?_) (fun h3 => ?_)
 ·have hlt : i < l.length := by have := of_decide_eq_true h3; omega
  obtain ⟨p, hp⟩ : ∃ p, l[i]? = some p := ⟨_, List.getElem?_eq_getElem hlt⟩
  have hp' : l[((i : Int)).toNat]? = some p := by rw [Int.toNat_natCast]; exact hp
  have hpm := List.mem_of_getElem? hp
  have hpB : p.length ≤ 1000000000 := hB.2 p hpm
  have hz := partT_le (j := 0) hp
  have hpz := partT_zero l i p
  have hpn : (partT l i p 0).length = (textP (l.take i)).length + (sClient ++ [10]).length := by rw [hpz, List.length_append]
  have hq1 : (textP (l.take i)).length + (sClient ++ [10]).length ≤ 1048576 := by rw [hpz, List.length_append] at hz; omega
  refine kS ?_;refine wc_seq ?_;refine wc_block ?_;refine sR ?_;refine rQ iA ?_;refine rQ iL ?_;refine rC ?_;refine nR ?_
  refine reg_do rfl (call_h [(0, some 65), (1, some 66)] (writestr_is (Nat.beq i 0) (textP (l.take i)) (sClient ++ [10]) (textP (l.take i)).length rfl (by decide) hq1) rfl rfl rfl (arg_ptr rfl rfl (arg_e arg_nil)) ⟨⟨rfl, (by cases Nat.beq i 0 <;> rfl), _, _, rfl, rfl, (by cases Nat.beq i 0 <;> exact .refl _)⟩, ⟨rfl, rfl, _, _, rfl, rfl, .refl _⟩, trivial⟩ rfl rfl (.inl rfl) rfl rfl) rfl rfl ?_
  refine nR ?_;refine rC ?_;refine rQ iE ?_;refine rC ?_;refine nS ?_;refine wc_block ?_
  refine wc_inv (fun j : Nat => ⟨[(24, .int .i64 j), (23, .int .i64 p.length), (22, .d (encP p)), (17, .int .i64 i), (16, .int .i64 l.length), (15, .d (encPL l)), (5, .ptr 65 [])], [(65, some (bldRow false 65 66 (partT l i p j).length)), (66, some (rowT (partT l i p j)))], 72, Tryz.f37.ntmps, 64⟩) (fun j => j ≤ p.length) (fun j => p.length - j) 0 [(66, some 104)] (Nat.zero_le _)
   (.of rfl rfl rfl rfl rfl ⟨⟨_, rfl, .refl _⟩, rfl, ⟨_, rfl, .refl _⟩, rfl, ⟨_, rfl, .refl _⟩, rfl, ⟨_, rfl, .refl _⟩, rfl, ⟨_, rfl, .refl _⟩, rfl, ⟨_, rfl, .refl _⟩, rfl, ⟨_, rfl, .refl _⟩, rfl, trivial⟩ ⟨⟨rfl, rfl, _, rfl, RowLe.of_eq (by rw [hpn]; rfl)⟩, ⟨rfl, rfl, _, rfl, RowLe.of_eq (by rw [hpz]; rfl)⟩, trivial⟩) ?_
  intro j hj
  refine wc_of ?_;refine sR ?_;refine rC ?_;refine nQ ?_
  refine wc_cond rfl (fun h4 => ?_) (fun h4 => ?_)
  ·have hjl : j < p.length := by have := of_decide_eq_true h4; omega
   obtain ⟨o, ho⟩ : ∃ o, p[j]? = some o := ⟨_, List.getElem?_eq_getElem hjl⟩
   have ho' : p[((j : Int)).toNat]? = some o := by rw [Int.toNat_natCast]; exact ho
   have hom := List.mem_of_getElem? ho
   have ho1 := hok p hpm o hom
   have ho2 : o.data.length ≤ 524288 := by have := hdm p hpm o hom; omega
   have hgo := partT_go (l := l) (i := i) ho
   have hpl := partT_le (j := j + 1) hp
   have hgn : (partT l i p (j + 1)).length = (partT l i p j).length + (lineP o ++ [10]).length := by rw [← hgo, List.length_append]
   have hq2 : (partT l i p j).length + (lineP o ++ [10]).length ≤ 1048576 := by rw [← hgo, List.length_append] at hpl; omega
   have hq3 : (lineP o).length + [(10 : UInt8)].length ≤ 9223372036854775807 := by simp only [List.length_append] at hq2; omega
   have hq4 : 0 < (lineP o ++ [10]).length := by simp
   refine kS ?_;refine wc_seq ?_;refine wc_block ?_;refine sR ?_;refine rQ iA ?_;refine rQ iL ?_;refine rN ?_;refine rW ?_;refine nS ?_;refine wc_region ?_;refine rQ iM ?_
   refine rQ (call_r (line_is o ho1 ho2) rfl rfl (arg_e arg_nil) (.inl rfl) (fun _ => rfl)) ?_;refine rQ (add_str (a := lineP o) (b := [10]) rfl rfl hq3 rfl) ?_;refine reg_do rfl (call_h [(0, some 65), (1, some 66)] (writestr_is false (partT l i p j) (lineP o ++ [10]) (partT l i p j).length rfl hq4 hq2) rfl rfl rfl (arg_ptr rfl rfl (arg_e arg_nil)) ⟨⟨rfl, rfl, _, _, rfl, rfl, .refl _⟩, ⟨rfl, rfl, _, _, rfl, rfl, .refl _⟩, trivial⟩ rfl rfl (.inl rfl) rfl rfl) rfl rfl ?_
   refine reg_nil ?_;refine blk_n ?_;refine seq_n ?_;refine wc_region ?_;refine rQ iD ?_;refine rC ?_;refine reg_nil ?_
   exact loop_n (j + 1) [(66, some 136)] hjl (by omega) (.of rfl rfl rfl rfl rfl ⟨⟨_, rfl, .refl _⟩, rfl, ⟨_, rfl, .refl _⟩, rfl, ⟨_, rfl, .refl _⟩, rfl, ⟨_, rfl, .refl _⟩, rfl, ⟨_, rfl, .refl _⟩, rfl, ⟨_, rfl, .refl _⟩, rfl, ⟨_, rfl, .refl _⟩, rfl, trivial⟩ ⟨⟨rfl, rfl, _, rfl, RowLe.of_eq (by rw [hgn]; rfl)⟩, ⟨rfl, rfl, _, rfl, RowLe.of_eq (congrArg rowT hgo)⟩, trivial⟩)
  ·have he : j = p.length := by have := of_decide_eq_false h4; omega
   subst he
   refine wc_exit ?_;refine seq_x ?_;refine loop_x ?_;refine blk_x ?_;refine blk_n ?_;refine seq_n ?_;refine wc_region ?_;refine rQ iD ?_;refine rC ?_;refine reg_nil ?_
   exact loop_n (i + 1) [] hlt (by omega) (.of rfl rfl rfl rfl rfl ⟨⟨_, rfl, .refl _⟩, rfl, ⟨_, rfl, .refl _⟩, rfl, ⟨_, rfl, .refl _⟩, rfl, ⟨_, rfl, .refl _⟩, rfl, trivial⟩ ⟨⟨rfl, rfl, _, rfl, RowLe.of_eq (by rw [partT_end hp]; rfl)⟩, ⟨rfl, rfl, _, rfl, RowLe.of_eq (congrArg rowT (partT_end hp))⟩, trivial⟩)
 ·have he : i = l.length := by have := of_decide_eq_false h3; omega
  subst he
  have hpos : 0 < l.length := List.length_pos_iff.2 hne
  have hne2 : textP l ≠ [] := fun e => by
   cases l with
   | nil => exact hne rfl
   | cons p l => simp [textP, sClient] at e
  have hbz : Nat.beq l.length 0 = false := by
   cases hz : Nat.beq l.length 0 with
   | false => rfl
   | true => have := Nat.eq_of_beq_eq_true hz; omega
  rw [hbz, List.take_length]
  refine wc_exit ?_;refine seq_x ?_;refine loop_x ?_;refine blk_x ?_;refine seq_n ?_;refine sR ?_;refine reg_new2 (call_h [(0, some 65), (1, some 66)] (bstring_is (textP l) (textP l).length rfl hne2 htm) rfl rfl rfl (arg_ptr rfl rfl arg_nil) ⟨⟨rfl, rfl, _, _, rfl, rfl, .refl _⟩, ⟨rfl, rfl, _, _, rfl, rfl, .refl _⟩, trivial⟩ rfl rfl (.inl rfl) rfl rfl) rfl ?_
  iterate 2 refine rC ?_
  refine nS ?_;refine wc_ret ?_
  exact ⟨trivial, [], lf⟩
theorem text_is (l : List (List POp)) (hB : Bd l) (hok : OkL l) : FnIs Tryz.prog 37 [.d (encPL l)] [] (.tup (.acons (.d (strD (if chkP l = 0 then textP l else []))) (.acons (.d (i6 (chkP l))) .anil))) [] := by
 by_cases h0 : chkP l = 0
 ·rw [if_pos h0, h0]
  by_cases hn : l = []
  ·subst hn; exact text_zero
  ·exact text_some l hB hn h0 hok
 ·rw [if_neg h0]
  exact text_bad l hB h0
end Go.Proofs.YtmojbghcngdkpaaGreatDoor
namespace Go.Eng
open Go.RowKit
def chM (A : AV) : List D → AV
 | [] => .acons A .anil
 | d :: l => .acons (.d d) (chM A l)
theorem chM_at {A : AV} {s : Nat} : ∀ (l : List D), (∀ d ∈ l, d.size = s) → (chM A l).chainAt l.length (l.length * s) = some A
 | [], _ => by simp [chM, AV.chainAt]
 | d :: l, h => by
  have hd := h d (by simp)
  simp only [chM, List.length_cons, AV.chainAt, AV.size, hd]
  have e : Nat.ble s ((l.length + 1) * s) = true := Nat.ble_eq_true_of_le (by rw [Nat.add_mul]; omega)
  rw [e, show (l.length + 1) * s - s = l.length * s by rw [Nat.add_mul]; omega]
  exact chM_at l fun x hx => h x (by simp [hx])
theorem chM_set {A x : AV} : ∀ (l : List D), AV.chainSet x l.length (chM A l) = chM x l
 | [] => rfl
 | d :: l => by
  simp only [chM, List.length_cons, AV.chainSet, chM_set l]
theorem chM_flat {A : AV} (hA : A.flat = true) : ∀ (l : List D), (chM A l).flat = true
 | [] => by simp [chM, AV.flat, hA]
 | d :: l => by simp [chM, AV.flat, chM_flat hA l]
theorem chM_lt {A : AV} {n : Nat} (hA : A.lt n = true) : ∀ (l : List D), (chM A l).lt n = true
 | [] => by simp [chM, AV.lt, hA]
 | _ :: l => by simp [chM, AV.lt, chM_lt hA l]
theorem chM_ren {A : AV} {ρ : Nat → Option Nat} : ∀ (l : List D), (chM A l).ren ρ = chM (A.ren ρ) l
 | [] => rfl
 | d :: l => by simp only [chM, AV.ren, chM_ren l]
theorem rsub_last {t : TypeId} {s : Nat} {ex : Bool} {A : AV} {l : List D} {m i : Nat} (hl : ∀ d ∈ l, d.size = s) (hm : m = l.length + 1) (hi : i = l.length) : RSub (.lits t s m ex (chM A l)) [.idx i s] A := by
 subst hm hi
 refine ⟨rfl, Nat.lt_succ_self _, ?_⟩
 rw [chM_at l hl]
 rfl
theorem rupd_last {t : TypeId} {s : Nat} {ex : Bool} {A y : AV} {l : List D} {m i : Nat} (hl : ∀ d ∈ l, d.size = s) (hm : m = l.length + 1) (hi : i = l.length) (h1 : A.size = y.size) (h2 : A.isAgg = y.isAgg) : RUpd (.lits t s m ex (chM A l)) [.idx i s] y (.lits t s m ex (chM y l)) := by
 subst hm hi
 refine ⟨rfl, Nat.lt_succ_self _, ?_⟩
 rw [chM_at l hl]
 exact ⟨y, ⟨h1, h2, rfl⟩, by rw [chM_set]⟩
theorem chM_cells {σ : Place} {w : World} {X : Nat → Prop} {A : AV} : ∀ (l : List D) (cs : List Value), Rel σ w X (chM A l) false cs ↔ ∃ c1 c2, cs = c1 ++ c2 ∧ Rel σ w X (dsAV l) false c1 ∧ Rel σ w X A false c2
 | [], cs => by
  constructor
  ·rintro ⟨c1, c2, rfl, h1, h2⟩
   rw [show c2 = [] from h2, List.append_nil]
   exact ⟨[], c1, rfl, rfl, h1⟩
  ·rintro ⟨c1, c2, rfl, h1, h2⟩
   rw [show c1 = [] from h1]
   exact ⟨c2, [], by simp, h2, rfl⟩
 | d :: l, cs => by
  constructor
  ·rintro ⟨c1, c2, rfl, h1, h2⟩
   obtain ⟨c3, c4, rfl, h3, h4⟩ := (chM_cells l c2).1 h2
   exact ⟨c1 ++ c3, c4, by simp, ⟨c1, c3, rfl, h1, h3⟩, h4⟩
  ·rintro ⟨c1, c2, rfl, ⟨c3, c4, rfl, h3, h4⟩, h2⟩
   exact ⟨c3, c4 ++ c2, by simp, h3, (chM_cells l _).2 ⟨c4, c2, rfl, h4, h2⟩⟩
theorem dsAV_app {σ : Place} {w : World} {X : Nat → Prop} : ∀ (l m : List D) (cs : List Value), Rel σ w X (dsAV (l ++ m)) false cs ↔ ∃ c1 c2, cs = c1 ++ c2 ∧ Rel σ w X (dsAV l) false c1 ∧ Rel σ w X (dsAV m) false c2
 | [], m, cs => by
  constructor
  ·intro h; exact ⟨[], cs, rfl, rfl, h⟩
  ·rintro ⟨c1, c2, rfl, h1, h2⟩
   rw [show c1 = [] from h1]; exact h2
 | d :: l, m, cs => by
  constructor
  ·rintro ⟨c1, c2, rfl, h1, h2⟩
   obtain ⟨c3, c4, rfl, h3, h4⟩ := (dsAV_app l m c2).1 h2
   exact ⟨c1 ++ c3, c4, by simp, ⟨c1, c3, rfl, h1, h3⟩, h4⟩
  ·rintro ⟨c1, c2, rfl, ⟨c3, c4, rfl, h3, h4⟩, h2⟩
   exact ⟨c3, c4 ++ c2, by simp, h3, (dsAV_app l m _).2 ⟨c4, c2, rfl, h4, h2⟩⟩
theorem dsAV_mk {σ : Place} {w : World} {X : Nat → Prop} {α : Type} {enc : α → D} : ∀ (xs : List α) (f : Nat → List Value), (∀ i (h : i < xs.length), Enc w X (enc xs[i]) (f i)) → Rel σ w X (dsAV (xs.map enc)) false (cat f xs.length)
 | [], f, _ => rfl
 | x :: xs, f, h => by
  rw [List.length_cons, Nat.add_comm xs.length 1, cat_add 1]
  refine ⟨f 0, cat (fun i => f (1 + i)) xs.length, by simp only [cat, List.nil_append], h 0 (by simp), ?_⟩
  exact dsAV_mk xs (fun i => f (1 + i)) fun i hi => by
   show Enc w X (enc xs[i]) (f (1 + i))
   rw [Nat.add_comm 1 i]
   exact h (i + 1) (by simpa using hi)
theorem RowLe.ds_chM {t : TypeId} {s m : Nat} {ex : Bool} {α : Type} {enc : α → D} {xs : List α} {y : α} {z : D} (hm : m = xs.length + 1) (hz : z = enc y) : RowLe (.ds t s ex enc (xs ++ [y])) (.lits t s m ex (chM (.d z) (xs.map enc))) := by
 subst hm hz
 intro σ w X r h
 refine ⟨chM_flat rfl _, ?_⟩
 rcases h with ⟨h0, h1⟩ | ⟨b, c, cur, hb, hex, hh, hsz, hlen, hmax, f, hf, htake⟩
 ·simp at h1
 ·have hn : (xs ++ [y]).length = xs.length + 1 := by simp
  rw [hn] at hlen htake hex
  have hfl : ∀ i, i < xs.length + 1 → (f i).length = s := fun i hi => (hf i (by rw [hn]; exact hi)).2
  refine .inr ⟨b, c, cur, cat f (xs.length + 1), hb, hex, hh, hsz, hlen, hmax, cat_len _ hfl, ?_, htake⟩
  have := dsAV_mk (σ := σ) (w := w) (X := X) (xs ++ [y]) f fun i hi => (hf i hi).1
  rw [hn, List.map_append] at this
  obtain ⟨c1, c2, e, h1, h2⟩ := (dsAV_app _ _ _).1 this
  rw [e]
  refine (chM_cells _ _).2 ⟨c1, c2, rfl, h1, ?_⟩
  obtain ⟨c3, c4, rfl, h3, h4⟩ := h2
  rw [show c4 = [] from h4, List.append_nil]
  exact h3
theorem FrzR.last {r t te s s2 m : Nat} {ex ex2 : Bool} {α β : Type} {enc : α → D} {enc2 : β → D} {xs : List α} {y : α} {ys : List β} {len : Nat} {l : List D} (hl : len = ys.length) (hy : enc y = .arr s2 enc2 ys) (hm : m = xs.length + 1) (hs : ∀ x, (enc x).size = s) (hmap : l = xs.map enc) :
  FrzR r (.ds te s2 ex2 enc2 ys) (.lits t s m ex (chM (.own r 0 len s2 none) l)) (.ds t s ex enc (xs ++ [y])) := by
 subst hm hmap
 refine ⟨fun G h => trivial, fun σ w X X' q hx hn hr hq => ?_⟩
 have hn1 : (xs ++ [y]).length = xs.length + 1 := by simp
 rcases hq with ⟨_, ⟨_, h1⟩ | ⟨b', c', cur, cs', hb', hex, hh, hsz, hlen, hmax, hcl, hrel, htake⟩⟩
 ·omega
 ·obtain ⟨c1, c2, rfl, h1, h2⟩ := (chM_cells _ _).1 hrel
  have h3 := (Frz.own (te := te) (ex := ex2) (cap := none) hl).2.2.2 σ w X X' hx hn hr c2 h2
  rw [← hy] at h3
  obtain ⟨f, hf, rfl⟩ := dsAV_rel xs _ h1
  have hfl : ∀ i, i < xs.length → (f i).length = s := fun i hi => by rw [← hs xs[i]]; exact Enc.len _ _ (hf i hi)
  have hc2 : c2.length = s := by rw [← hs y]; exact Enc.len _ _ h3
  refine .inr ⟨b', c', cur, hb', by rw [hn1]; exact hex, hh, hsz, by rw [hn1]; exact hlen, hmax, fun i => if i < xs.length then f i else c2, fun i hi => ?_, ?_⟩
  ·by_cases hi2 : i < xs.length
   ·simp only [if_pos hi2, List.getElem_append_left hi2]
    exact ⟨Enc.sub hx _ _ (hf i hi2), hfl i hi2⟩
   ·have : i = xs.length := by rw [hn1] at hi; omega
    subst this
    simp only [if_neg hi2, List.getElem_concat_length]
    exact ⟨h3, hc2⟩
  ·rw [hn1, htake]
   have e : cat (fun i => if i < xs.length then f i else c2) xs.length = cat f xs.length := cat_congr _ fun i hi => by simp only [if_pos hi]
   simp only [cat, Nat.lt_irrefl, if_false, e]
end Go.Eng
namespace Go.Proofs.YtmojbghcngdkpaaGreatDoor
open Go.Eng Go.Plain
set_option maxHeartbeats 4000000
set_option maxRecDepth 20000
attribute [local irreducible] WC RegS RegD SeqQ BlkQ ScoQ RegK CutK Sat SatN FnIs LoopQ StepIs OpIs
def encO : Option (List POp) → D
 | none => .sc nil_
 | some p => encP p
theorem encO_size (o : Option (List POp)) : (encO o).size = 1 := by cases o <;> rfl
theorem mapO (l : List (List POp)) : l.map encP = (l.map some).map encO := by simp [encO]
abbrev rowL (p : List POp) (l : List (List POp)) (m r : Nat) : Row := .lits 77 1 m false (chM (.own r 0 p.length 3 none) (l.map encP))
abbrev rowP (p : List POp) : Row := .ds 50 3 false encPOp p
abbrev S0 : List (Nat × Row) := [(0, .box 72 (.own 3 0 0 1 none)), (1, .box 154 (.mapr 2)), (2, .mo (mapC strD knownL)), (3, .ds 77 1 false encO [])]
abbrev S1 (a b : Nat) (l : List (List POp)) (p : List POp) : List (Nat × Row) := [(0, .box 72 (.own a 0 (l.length + 1) 1 none)), (1, .box 154 (.mapr 2)), (2, .mo (mapC strD knownL)), (a, rowL p l (l.length + 1) b), (b, rowP p)]
theorem leaf_nil {b : Nat} {l : List (List POp)} {m : Nat} {ρ : Nat → Option Nat} {xs : List (Option (List POp))} (hm : m = l.length + 1) (hx : xs = l.map some) (hρ : ρ b = none) : RowLe (.ds 77 1 false encO (xs ++ [none])) (Row.ren ρ (rowL [] l m b)) := by
 subst hx
 show RowLe _ (.lits _ _ _ _ (AV.ren ρ (chM _ _)))
 rw [chM_ren, mapO]
 have e : AV.ren ρ (.own b 0 ([] : List POp).length 3 none) = .d (.sc nil_) := by simp [AV.ren, hρ]
 rw [e]
 exact RowLe.ds_chM (by simpa using hm) rfl
theorem add_client0 (t : List UInt8) (ht : t = sClient) : FnIs Tryz.prog 93 [.d (strD t), .ptr 0 [], .ptr 1 []] S0 (.d (i6 0)) (S1 64 65 [] []) := by
 have h0 : decide (t = sClient) = true := dT ht
 refine fnIs_of tab_ok Tryz.func93 rfl rfl rfl ?_;refine sR ?_;refine rC ?_;refine nQ ?_;refine sR ?_;refine rC ?_;refine rQ (eql_s (a := t) (b := sClient) tab_ok rfl rfl rfl) ?_
 refine nS ?_;refine wT ?_;refine sR ?_;refine rQ iM ?_;refine reg_new (build_slice (s := 1) tab_ok rfl rfl rfl rfl rfl rfl rfl rfl) rfl ?_;refine reg_new2 (append_one (xs := ([] : List (Option (List POp)))) (s := 1) (enc := encO) tab_ok none rfl rfl rfl rfl rfl rfl rfl rfl rfl (by decide) rfl) rfl ?_
 refine rW ?_;refine nQ ?_;refine sR ?_;refine rQ iM ?_;refine rQ (len_own tab_ok rfl rfl) ?_;refine rC ?_;refine nS ?_;refine wG ?_;refine kS ?_;refine sR ?_;refine rC ?_
 refine nS ?_;refine wc_ret ?_;refine seq_r ?_
 exact ⟨trivial, [(64, some 104), (65, none)], .of rfl rfl rfl rfl rfl ⟨⟨_, rfl, AVLe.of_eq rfl⟩, rfl, trivial⟩ ⟨⟨rfl, rfl, _, rfl, .refl _⟩, ⟨rfl, rfl, _, rfl, .refl _⟩, ⟨rfl, rfl, _, rfl, .refl _⟩, ⟨rfl, rfl, _, rfl, leaf_nil (l := []) (xs := []) rfl rfl rfl⟩, ⟨rfl, rfl, rfl⟩, trivial⟩⟩
theorem add_client1 (t : List UInt8) (ht : t = sClient) (l : List (List POp)) (p : List POp) (hl : l.length ≤ 1000) : FnIs Tryz.prog 93 [.d (strD t), .ptr 0 [], .ptr 1 []] (S1 3 4 l p) (.d (i6 (if 8 < l.length + 2 then 3 else 0))) (S1 64 65 (l ++ [p]) []) := by
 have h0 : decide (t = sClient) = true := dT ht
 have hL : l.length + 1 = (l.map some ++ [some p]).length := by simp
 have hlen : (l.map some ++ [some p]).length + [(none : Option (List POp))].length ≤ 1048576 := by simp; omega
 have e1 : (l.map some ++ [some p]).length + [(none : Option (List POp))].length = (l ++ [p]).length + 1 := by simp
 have e2 : l.map some ++ [some p] = (l ++ [p]).map some := by simp
 refine fnIs_of tab_ok Tryz.func93 rfl rfl rfl ?_;refine sR ?_;refine rC ?_;refine nQ ?_;refine sR ?_;refine rC ?_;refine rQ (eql_s (a := t) (b := sClient) tab_ok rfl rfl rfl) ?_
 refine nS ?_;refine wT ?_;refine sR ?_;refine rQ iM ?_;refine reg_new (build_slice (s := 1) tab_ok rfl rfl rfl rfl rfl rfl rfl rfl) rfl ?_;refine reg_freeze (env' := [(12, _), (13, _), (0, _), (1, _), (2, _)]) (h' := [(0, some _), (1, some _), (2, some _), (96, some _), (3, some _)]) 4 _ rfl ⟨⟨_, rfl, .refl _⟩, ⟨_, rfl, .refl _⟩, ⟨_, rfl, .refl _⟩, ⟨_, rfl, .refl _⟩, ⟨_, rfl, .refl _⟩, trivial⟩ ⟨⟨rfl, _, rfl, .refl _⟩, ⟨rfl, _, rfl, .refl _⟩, ⟨rfl, _, rfl, .refl _⟩, ⟨rfl, _, rfl, .refl _⟩, ⟨rfl, _, rfl, FrzR.last (enc := encO) (xs := l.map some) (y := some p) rfl rfl (by simp) encO_size (mapO l)⟩, trivial⟩ ?_
 by_cases hg : 8 < l.length + 2
 ·have hgt : decide (8 < (((l.map some ++ [some p]).length + [(none : Option (List POp))].length : Nat) : Int)) = true := dT (by simp; omega)
  rw [if_pos hg]
  refine reg_new2 (append_litsL (α := Option (List POp)) (s := 1) (enc := encO) (xs := l.map some ++ [some p]) tab_ok [none] rfl rfl rfl rfl rfl hL rfl rfl rfl rfl (fun _ _ => encO_size _) (by decide) hlen rfl) rfl ?_
  refine rW ?_;refine nQ ?_;refine sR ?_;refine rQ iM ?_;refine rQ (len_own tab_ok rfl rfl) ?_;refine rC ?_;refine nS ?_;refine wT ?_;refine sR ?_;refine rC ?_;refine nS ?_
  refine wc_ret ?_;iterate 2 refine seq_r ?_
  rw [e1, e2]
  exact ⟨trivial, [(64, some 104), (65, none)], .of rfl rfl rfl rfl rfl ⟨⟨_, rfl, AVLe.of_eq rfl⟩, rfl, trivial⟩ ⟨⟨rfl, rfl, _, rfl, .refl _⟩, ⟨rfl, rfl, _, rfl, .refl _⟩, ⟨rfl, rfl, _, rfl, .refl _⟩, ⟨rfl, chM_lt rfl _, _, rfl, leaf_nil rfl rfl rfl⟩, ⟨rfl, rfl, rfl⟩, trivial⟩⟩
 ·have hgt : decide (8 < (((l.map some ++ [some p]).length + [(none : Option (List POp))].length : Nat) : Int)) = false := dF (by simp; omega)
  rw [if_neg hg]
  refine reg_new2 (append_litsL (α := Option (List POp)) (s := 1) (enc := encO) (xs := l.map some ++ [some p]) tab_ok [none] rfl rfl rfl rfl rfl hL rfl rfl rfl rfl (fun _ _ => encO_size _) (by decide) hlen rfl) rfl ?_
  refine rW ?_;refine nQ ?_;refine sR ?_;refine rQ iM ?_;refine rQ (len_own tab_ok rfl rfl) ?_;refine rC ?_;refine nS ?_;refine wF ?_;refine kS ?_;refine sR ?_;refine rC ?_
  refine nS ?_;refine wc_ret ?_;refine seq_r ?_
  rw [e1, e2]
  exact ⟨trivial, [(64, some 104), (65, none)], .of rfl rfl rfl rfl rfl ⟨⟨_, rfl, AVLe.of_eq rfl⟩, rfl, trivial⟩ ⟨⟨rfl, rfl, _, rfl, .refl _⟩, ⟨rfl, rfl, _, rfl, .refl _⟩, ⟨rfl, rfl, _, rfl, .refl _⟩, ⟨rfl, chM_lt rfl _, _, rfl, leaf_nil rfl rfl rfl⟩, ⟨rfl, rfl, rfl⟩, trivial⟩⟩
end Go.Proofs.YtmojbghcngdkpaaGreatDoor
namespace Go.Plain
open Go.Eng Go.Lib
theorem split_mem_le : ∀ (l : List UInt8) (c : UInt8) (w : List UInt8), w ∈ splitL l c → w.length ≤ l.length
 | [], _, w, h => by simp [splitL] at h; subst h; simp
 | b :: l, c, w, h => by
  simp only [splitL] at h
  split at h
  ·rcases List.mem_cons.1 h with rfl | h
   ·simp
   ·have := split_mem_le l c w h
    simp only [List.length_cons]; omega
  ·split at h
   ·rw [List.mem_singleton.1 h]; simp
   ·rename_i w' ws hs
    rcases List.mem_cons.1 h with rfl | h
    ·have := split_mem_le l c w' (by rw [hs]; simp)
     simp only [List.length_cons]; omega
    ·have := split_mem_le l c w (by rw [hs]; simp [h])
     simp only [List.length_cons]; omega
theorem pairs_len : ∀ (s t : List UInt8), pairsO s = some t → s.length = 2 * t.length
 | [], t, h => by cases h; rfl
 | [_], _, h => by cases h
 | a :: b :: l, t, h => by
  simp only [pairsO] at h
  split at h
  ·rename_i x y r _ _ hr
   cases h
   have := pairs_len l r hr
   simp only [List.length_cons]; omega
  ·cases h
theorem unhex_len {s t : List UInt8} (h : unhexP s = some t) : 2 * t.length ≤ s.length := by
 rw [unhexP] at h
 split at h
 ·cases h; simp
 ·split at h
  ·cases h
  ·rw [pairs_len _ _ h]; exact Nat.le_refl _
theorem split_head {t a : List UInt8} {c : UInt8} {r : List (List UInt8)} (h : splitL t c = a :: r) : a.length + r.length ≤ t.length := by
 rw [split_cut] at h
 cases hc : cutL t c with
 | none => rw [hc] at h; simp only at h; cases h; simp
 | some pq =>
  obtain ⟨p, q⟩ := pq
  rw [hc] at h
  simp only [List.cons.injEq] at h
  obtain ⟨rfl, rfl⟩ := h
  have := splitL_len q c
  rw [(cutL_some hc).1]
  simp
  omega
end Go.Plain
namespace Go.Proofs.YtmojbghcngdkpaaGreatDoor
open Go.Eng Go.Plain
set_option maxHeartbeats 4000000
set_option maxRecDepth 20000
attribute [local irreducible] WC RegS RegD SeqQ BlkQ ScoQ RegK CutK Sat SatN FnIs LoopQ StepIs OpIs
theorem fn_zero : ZeroIs Tryz.prog 157 (.sc .nilFunc) := zero_of (by kernel_rfl) rfl
theorem leaf_keep {b b' : Nat} {p : List POp} {l : List (List POp)} {m m' : Nat} {ρ : Nat → Option Nat} (hm : m = m') (hρ : ρ b' = some b) : RowLe (rowL p l m b) (Row.ren ρ (rowL p l m' b')) := by
 subst hm
 show RowLe _ (.lits _ _ _ _ (AV.ren ρ (chM _ _)))
 rw [chM_ren]
 have e : AV.ren ρ (.own b' 0 p.length 3 none) = .own b 0 p.length 3 none := by simp [AV.ren, hρ]
 rw [e]
 exact .refl _
theorem add_unk0 (t a : List UInt8) (r : List (List UInt8)) (ht : t ≠ sClient) (hl : t.length ≤ 1048576) (hsp : splitL t 32 = a :: r) (hf : findC a knownL 0 = none) : FnIs Tryz.prog 93 [.d (strD t), .ptr 0 [], .ptr 1 []] S0 (.d (i6 5)) S0 := by
 have h0 : decide (t = sClient) = false := dF ht
 have hs := split_is (l := t) (c := 32) (by omega)
 rw [hsp] at hs
 have g0 : (a :: r)[((0 : Int)).toNat]? = some a := rfl
 refine fnIs_of tab_ok Tryz.func93 rfl rfl rfl ?_;refine sR ?_;refine rC ?_;refine nQ ?_;refine sR ?_;refine rC ?_;refine rQ (eql_s (a := t) (b := sClient) tab_ok rfl rfl rfl) ?_
 refine nS ?_;refine wF ?_;refine kS ?_;refine sR ?_;refine rC ?_;refine rQ (call_r hs rfl rfl (arg_e (arg_e arg_nil)) (.inl rfl) (fun _ => rfl)) ?_;refine rC ?_
 refine nQ ?_;refine wc_draw (by kernel_rfl) ?_;refine dQ [2] [1, 2] iM ?_;refine dC [5] [] ?_;refine dQ [22] [] iA ?_;refine dQ [23] [] iL ?_;refine dQ [21, 24] [2] (lookup2_none (κ := List UInt8) (enc := strD) (l := knownL) (k := a) key_str Tryz.underlying154 fn_zero rfl rfl rfl hf) ?_
 refine dC [25] [] ?_;iterate 2 refine dC [20] [] ?_
 refine dC [26] [] ?_;refine dC [27] [] ?_;refine dreg_end (by kernel_rfl) ?_;refine seq_n ?_;refine qR ?_;iterate 3 refine rC ?_
 iterate 3 refine rT ?_
 refine rQ iU ?_;refine nS ?_;refine wV ?_;refine sR ?_;refine rC ?_;refine nS ?_;refine wc_ret ?_;refine seq_r ?_
 exact ⟨trivial, [], .of rfl rfl rfl rfl rfl ⟨⟨_, rfl, AVLe.of_eq rfl⟩, rfl, trivial⟩ ⟨⟨rfl, rfl, _, rfl, .refl _⟩, ⟨rfl, rfl, _, rfl, .refl _⟩, ⟨rfl, rfl, _, rfl, .refl _⟩, ⟨rfl, rfl, _, rfl, .refl _⟩, trivial⟩⟩
theorem add_unk1 (t a : List UInt8) (r : List (List UInt8)) (ht : t ≠ sClient) (hl : t.length ≤ 1048576) (hsp : splitL t 32 = a :: r) (hf : findC a knownL 0 = none) (l : List (List POp)) (p : List POp) : FnIs Tryz.prog 93 [.d (strD t), .ptr 0 [], .ptr 1 []] (S1 3 4 l p) (.d (i6 5)) (S1 3 4 l p) := by
 have h0 : decide (t = sClient) = false := dF ht
 have hs := split_is (l := t) (c := 32) (by omega)
 rw [hsp] at hs
 have g0 : (a :: r)[((0 : Int)).toNat]? = some a := rfl
 refine fnIs_of tab_ok Tryz.func93 rfl rfl rfl ?_;refine sR ?_;refine rC ?_;refine nQ ?_;refine sR ?_;refine rC ?_;refine rQ (eql_s (a := t) (b := sClient) tab_ok rfl rfl rfl) ?_
 refine nS ?_;refine wF ?_;refine kS ?_;refine sR ?_;refine rC ?_;refine rQ (call_r hs rfl rfl (arg_e (arg_e arg_nil)) (.inl rfl) (fun _ => rfl)) ?_;refine rC ?_
 refine nQ ?_;refine wc_draw (by kernel_rfl) ?_;refine dQ [2] [1, 2] iM ?_;refine dC [5] [] ?_;refine dQ [22] [] iA ?_;refine dQ [23] [] iL ?_;refine dQ [21, 24] [2] (lookup2_none (κ := List UInt8) (enc := strD) (l := knownL) (k := a) key_str Tryz.underlying154 fn_zero rfl rfl rfl hf) ?_
 refine dC [25] [] ?_;iterate 2 refine dC [20] [] ?_
 refine dC [26] [] ?_;refine dC [27] [] ?_;refine dreg_end (by kernel_rfl) ?_;refine seq_n ?_;refine qR ?_;iterate 3 refine rC ?_
 iterate 3 refine rT ?_
 refine rQ iU ?_;refine nS ?_;refine wV ?_;refine sR ?_;refine rC ?_;refine nS ?_;refine wc_ret ?_;refine seq_r ?_
 exact ⟨trivial, [], .of rfl rfl rfl rfl rfl ⟨⟨_, rfl, AVLe.of_eq rfl⟩, rfl, trivial⟩ ⟨⟨rfl, rfl, _, rfl, .refl _⟩, ⟨rfl, rfl, _, rfl, .refl _⟩, ⟨rfl, rfl, _, rfl, .refl _⟩, ⟨rfl, chM_lt rfl _, _, rfl, leaf_keep rfl rfl⟩, ⟨rfl, rfl, _, rfl, .refl _⟩, trivial⟩⟩
theorem add_known0 (t a : List UInt8) (r : List (List UInt8)) (ht : t ≠ sClient) (hl : t.length ≤ 1048576) (hsp : splitL t 32 = a :: r) (f j : Nat) (hf : findC a knownL 0 = some (j, fnA f)) : FnIs Tryz.prog 93 [.d (strD t), .ptr 0 [], .ptr 1 []] S0 (.d (i6 5)) S0 := by
 have h0 : decide (t = sClient) = false := dF ht
 have hs := split_is (l := t) (c := 32) (by omega)
 rw [hsp] at hs
 have g0 : (a :: r)[((0 : Int)).toNat]? = some a := rfl
 refine fnIs_of tab_ok Tryz.func93 rfl rfl rfl ?_;refine sR ?_;refine rC ?_;refine nQ ?_;refine sR ?_;refine rC ?_;refine rQ (eql_s (a := t) (b := sClient) tab_ok rfl rfl rfl) ?_
 refine nS ?_;refine wF ?_;refine kS ?_;refine sR ?_;refine rC ?_;refine rQ (call_r hs rfl rfl (arg_e (arg_e arg_nil)) (.inl rfl) (fun _ => rfl)) ?_;refine rC ?_
 refine nQ ?_;refine wc_draw (by kernel_rfl) ?_;refine dQ [2] [1, 2] iM ?_;refine dC [5] [] ?_;refine dQ [22] [] iA ?_;refine dQ [23] [] iL ?_;refine dQ [21, 24] [2] (lookup2_some (κ := List UInt8) (enc := strD) (l := knownL) (k := a) key_str Tryz.underlying154 rfl rfl rfl hf) ?_
 refine dC [25] [] ?_;iterate 2 refine dC [20] [] ?_
 refine dC [26] [] ?_;refine dC [27] [] ?_;refine dreg_end (by kernel_rfl) ?_;refine seq_n ?_;refine qR ?_;iterate 3 refine rC ?_
 refine rP ?_;refine rQ iM ?_;refine rP ?_;refine rQ (len_own tab_ok rfl rfl) ?_;refine rP ?_;refine rC ?_;refine rQ iG ?_;refine nS ?_;refine wV ?_;refine sR ?_
 refine rC ?_;refine nS ?_;refine wc_ret ?_;refine seq_r ?_
 exact ⟨trivial, [], .of rfl rfl rfl rfl rfl ⟨⟨_, rfl, AVLe.of_eq rfl⟩, rfl, trivial⟩ ⟨⟨rfl, rfl, _, rfl, .refl _⟩, ⟨rfl, rfl, _, rfl, .refl _⟩, ⟨rfl, rfl, _, rfl, .refl _⟩, ⟨rfl, rfl, _, rfl, .refl _⟩, trivial⟩⟩
theorem add_bad1 (t a : List UInt8) (r : List (List UInt8)) (ht : t ≠ sClient) (hl : t.length ≤ 1048576) (hsp : splitL t 32 = a :: r) (f j : Nat) (hf : findC a knownL 0 = some (j, fnA f)) (o : POp) (hread : FnIs Tryz.prog f [.d (.arr 1 strD r)] [] (opR o false) []) (l : List (List POp)) (p : List POp) (hll : l.length ≤ 1000) : FnIs Tryz.prog 93 [.d (strD t), .ptr 0 [], .ptr 1 []] (S1 3 4 l p) (.d (i6 5)) (S1 3 4 l p) := by
 have h0 : decide (t = sClient) = false := dF ht
 have hs := split_is (l := t) (c := 32) (by omega)
 rw [hsp] at hs
 have g0 : (a :: r)[((0 : Int)).toNat]? = some a := rfl
 have hz : decide (((l.length + 1 : Nat) : Int) = 0) = false := dF (by omega)
 refine fnIs_of tab_ok Tryz.func93 rfl rfl rfl ?_;refine sR ?_;refine rC ?_;refine nQ ?_;refine sR ?_;refine rC ?_;refine rQ (eql_s (a := t) (b := sClient) tab_ok rfl rfl rfl) ?_
 refine nS ?_;refine wF ?_;refine kS ?_;refine sR ?_;refine rC ?_;refine rQ (call_r hs rfl rfl (arg_e (arg_e arg_nil)) (.inl rfl) (fun _ => rfl)) ?_;refine rC ?_
 refine nQ ?_;refine wc_draw (by kernel_rfl) ?_;refine dQ [2] [1, 2] iM ?_;refine dC [5] [] ?_;refine dQ [22] [] iA ?_;refine dQ [23] [] iL ?_;refine dQ [21, 24] [2] (lookup2_some (κ := List UInt8) (enc := strD) (l := knownL) (k := a) key_str Tryz.underlying154 rfl rfl rfl hf) ?_
 refine dC [25] [] ?_;iterate 2 refine dC [20] [] ?_
 refine dC [26] [] ?_;refine dC [27] [] ?_;refine dreg_end (by kernel_rfl) ?_;refine seq_n ?_;refine qR ?_;iterate 3 refine rC ?_
 refine rP ?_;refine rQ iM ?_;refine rP ?_;refine rQ (len_own tab_ok rfl rfl) ?_;refine rP ?_;refine rC ?_;refine rQ iG ?_;refine nS ?_;refine wG ?_;refine kS ?_
 refine sR ?_;iterate 2 refine rC ?_
 refine rQ (slice_from (m := 1) tab_ok rfl rfl rfl rfl rfl (Nat.succ_le_succ (Nat.zero_le _))) ?_;refine rQ (call_r hread rfl rfl (arg_e arg_nil) (.inl rfl) (fun _ => rfl)) ?_
 iterate 3 refine rC ?_
 refine rN ?_;refine rW ?_;refine rC ?_;refine nQ ?_;refine sR ?_;iterate 3 refine rC ?_
 iterate 4 refine rT ?_
 refine rQ iU ?_;refine nS ?_;refine wV ?_;refine sR ?_;refine rC ?_;refine nS ?_;refine wc_ret ?_;refine seq_r ?_
 exact ⟨trivial, [], .of rfl rfl rfl rfl rfl ⟨⟨_, rfl, AVLe.of_eq rfl⟩, rfl, trivial⟩ ⟨⟨rfl, rfl, _, rfl, .refl _⟩, ⟨rfl, rfl, _, rfl, .refl _⟩, ⟨rfl, rfl, _, rfl, .refl _⟩, ⟨rfl, chM_lt rfl _, _, rfl, leaf_keep rfl rfl⟩, ⟨rfl, rfl, _, rfl, .refl _⟩, trivial⟩⟩
theorem add_ne1 (t a : List UInt8) (r : List (List UInt8)) (ht : t ≠ sClient) (hl : t.length ≤ 1048576) (hsp : splitL t 32 = a :: r) (f j : Nat) (hf : findC a knownL 0 = some (j, fnA f)) (o : POp) (hok : o.Ok) (hdl : o.data.length ≤ 524288) (hread : FnIs Tryz.prog f [.d (.arr 1 strD r)] [] (opR o true) []) (l : List (List POp)) (p : List POp) (hll : l.length ≤ 1000) (hne : lineP o ≠ t) : FnIs Tryz.prog 93 [.d (strD t), .ptr 0 [], .ptr 1 []] (S1 3 4 l p) (.d (i6 5)) (S1 3 4 l p) := by
 have h0 : decide (t = sClient) = false := dF ht
 have hs := split_is (l := t) (c := 32) (by omega)
 rw [hsp] at hs
 have g0 : (a :: r)[((0 : Int)).toNat]? = some a := rfl
 have hz : decide (((l.length + 1 : Nat) : Int) = 0) = false := dF (by omega)
 have hline := line_is o hok hdl
 have hn : (!decide (lineP o = t)) = true := by rw [dF hne]; rfl
 refine fnIs_of tab_ok Tryz.func93 rfl rfl rfl ?_;refine sR ?_;refine rC ?_;refine nQ ?_;refine sR ?_;refine rC ?_;refine rQ (eql_s (a := t) (b := sClient) tab_ok rfl rfl rfl) ?_
 refine nS ?_;refine wF ?_;refine kS ?_;refine sR ?_;refine rC ?_;refine rQ (call_r hs rfl rfl (arg_e (arg_e arg_nil)) (.inl rfl) (fun _ => rfl)) ?_;refine rC ?_
 refine nQ ?_;refine wc_draw (by kernel_rfl) ?_;refine dQ [2] [1, 2] iM ?_;refine dC [5] [] ?_;refine dQ [22] [] iA ?_;refine dQ [23] [] iL ?_;refine dQ [21, 24] [2] (lookup2_some (κ := List UInt8) (enc := strD) (l := knownL) (k := a) key_str Tryz.underlying154 rfl rfl rfl hf) ?_
 refine dC [25] [] ?_;iterate 2 refine dC [20] [] ?_
 refine dC [26] [] ?_;refine dC [27] [] ?_;refine dreg_end (by kernel_rfl) ?_;refine seq_n ?_;refine qR ?_;iterate 3 refine rC ?_
 refine rP ?_;refine rQ iM ?_;refine rP ?_;refine rQ (len_own tab_ok rfl rfl) ?_;refine rP ?_;refine rC ?_;refine rQ iG ?_;refine nS ?_;refine wG ?_;refine kS ?_
 refine sR ?_;iterate 2 refine rC ?_
 refine rQ (slice_from (m := 1) tab_ok rfl rfl rfl rfl rfl (Nat.succ_le_succ (Nat.zero_le _))) ?_;refine rQ (call_r hread rfl rfl (arg_e arg_nil) (.inl rfl) (fun _ => rfl)) ?_
 iterate 3 refine rC ?_
 refine rN ?_;refine rW ?_;refine rC ?_;refine nQ ?_;refine sR ?_;iterate 3 refine rC ?_
 refine rP ?_;refine rQ iM ?_;refine rP ?_;refine rQ (call_r hline rfl rfl (arg_e arg_nil) (.inl rfl) (fun _ => rfl)) ?_;refine rP ?_;refine rC ?_;refine rP ?_;refine rQ (neq_s (a := lineP o) (b := t) tab_ok rfl rfl rfl) ?_
 refine rQ iG ?_;refine nS ?_;refine wT ?_;refine sR ?_;refine rC ?_;refine nS ?_;refine wc_ret ?_;refine seq_r ?_
 exact ⟨trivial, [], .of rfl rfl rfl rfl rfl ⟨⟨_, rfl, AVLe.of_eq rfl⟩, rfl, trivial⟩ ⟨⟨rfl, rfl, _, rfl, .refl _⟩, ⟨rfl, rfl, _, rfl, .refl _⟩, ⟨rfl, rfl, _, rfl, .refl _⟩, ⟨rfl, chM_lt rfl _, _, rfl, leaf_keep rfl rfl⟩, ⟨rfl, rfl, _, rfl, .refl _⟩, trivial⟩⟩
theorem leaf_len {b b' n : Nat} {p : List POp} {l : List (List POp)} {m m' : Nat} {ρ : Nat → Option Nat} (hm : m = m') (hn : n = p.length) (hρ : ρ b' = some b) : RowLe (.lits 77 1 m false (chM (.own b 0 n 3 none) (l.map encP))) (Row.ren ρ (rowL p l m' b')) := by
 subst hn
 exact leaf_keep hm hρ
theorem add_ok1 (t a : List UInt8) (r : List (List UInt8)) (ht : t ≠ sClient) (hl : t.length ≤ 1048576) (hsp : splitL t 32 = a :: r) (f j : Nat) (hf : findC a knownL 0 = some (j, fnA f)) (o : POp) (hok : o.Ok) (hdl : o.data.length ≤ 524288) (hread : FnIs Tryz.prog f [.d (.arr 1 strD r)] [] (opR o true) []) (l : List (List POp)) (p : List POp) (hll : l.length ≤ 1000) (hpp : p.length ≤ 1000) (heq : lineP o = t) (b1 b2 : Bool) (hb1 : decide (64 < ((p.length + 1 : Nat) : Int)) = b1) (hb2 : decide (64 < ((byI o.data).length : Int)) = b2) : FnIs Tryz.prog 93 [.d (strD t), .ptr 0 [], .ptr 1 []] (S1 3 4 l p) (.d (i6 (if b1 || b2 then 3 else 0))) (S1 3 65 l (p ++ [o])) := by
 have h0 : decide (t = sClient) = false := dF ht
 have hs := split_is (l := t) (c := 32) (by omega)
 rw [hsp] at hs
 have g0 : (a :: r)[((0 : Int)).toNat]? = some a := rfl
 have hz : decide (((l.length + 1 : Nat) : Int) = 0) = false := dF (by omega)
 have hline := line_is o hok hdl
 have hn : (!decide (lineP o = t)) = false := by rw [dT heq]; rfl
 have hw : IntKind.i64.wrap (((l.length + 1 : Nat) : Int) - 1) = (l.length : Int) := by rw [wrap_i64 (by omega) (by omega)]; omega
 have hsz : ∀ d ∈ l.map encP, d.size = 1 := fun d hd => by
  obtain ⟨x, _, rfl⟩ := List.mem_map.1 hd
  rfl
 have hmm : l.length + 1 = (l.map encP).length + 1 := by simp
 have hml : (l.map encP).length = l.length := by simp
 have hpn : p.length + 1 = (p ++ [o]).length := by simp
 have hpl : p.length + 1 ≤ 1048576 := by omega
 refine fnIs_of tab_ok Tryz.func93 rfl rfl rfl ?_
 cases b1 <;> cases b2
 ·refine sR ?_;refine rC ?_;refine nQ ?_;refine sR ?_;refine rC ?_;refine rQ (eql_s (a := t) (b := sClient) tab_ok rfl rfl rfl) ?_;refine nS ?_;refine wF ?_;refine kS ?_
  refine sR ?_;refine rC ?_;refine rQ (call_r hs rfl rfl (arg_e (arg_e arg_nil)) (.inl rfl) (fun _ => rfl)) ?_;refine rC ?_;refine nQ ?_;refine wc_draw (by kernel_rfl) ?_
  refine dQ [2] [1, 2] iM ?_;refine dC [5] [] ?_;refine dQ [22] [] iA ?_;refine dQ [23] [] iL ?_;refine dQ [21, 24] [2] (lookup2_some (κ := List UInt8) (enc := strD) (l := knownL) (k := a) key_str Tryz.underlying154 rfl rfl rfl hf) ?_
  refine dC [25] [] ?_;iterate 2 refine dC [20] [] ?_
  refine dC [26] [] ?_;refine dC [27] [] ?_;refine dreg_end (by kernel_rfl) ?_;refine seq_n ?_;refine qR ?_;iterate 3 refine rC ?_
  refine rP ?_;refine rQ iM ?_;refine rP ?_;refine rQ (len_own tab_ok rfl rfl) ?_;refine rP ?_;refine rC ?_;refine rQ iG ?_;refine nS ?_;refine wG ?_;refine kS ?_
  refine sR ?_;iterate 2 refine rC ?_
  refine rQ (slice_from (m := 1) tab_ok rfl rfl rfl rfl rfl (Nat.succ_le_succ (Nat.zero_le _))) ?_;refine rQ (call_r hread rfl rfl (arg_e arg_nil) (.inl rfl) (fun _ => rfl)) ?_
  iterate 3 refine rC ?_
  refine rN ?_;refine rW ?_;refine rC ?_;refine nQ ?_;refine sR ?_;iterate 3 refine rC ?_
  refine rP ?_;refine rQ iM ?_;refine rP ?_;refine rQ (call_r hline rfl rfl (arg_e arg_nil) (.inl rfl) (fun _ => rfl)) ?_;refine rP ?_;refine rC ?_;refine rP ?_;refine rQ (neq_s (a := lineP o) (b := t) tab_ok rfl rfl rfl) ?_
  refine rQ iG ?_;refine nS ?_;refine wF ?_;refine kS ?_;refine wc_seq ?_;refine wc_draw (by kernel_rfl) ?_;iterate 2 refine dQ [1] [0, 3] iM ?_
  refine dQ [51] [3] (len_own tab_ok rfl rfl) ?_;refine dQ [52] [] (sub_int (m := (l.length : Int)) tab_ok rfl rfl hw) ?_;refine dQ [50, 53] [3] (index_own tab_ok rfl rfl rfl rfl rfl (by omega) (by omega)) ?_
  refine dQ [54] [3] (load_row tab_ok rfl rfl (rsub_last (s := 1) (A := .own 4 0 p.length 3 none) hsz hmm ((Int.toNat_natCast _).trans hml.symm)) rfl) ?_;refine dQ [8] [304] iM ?_
  refine dreg_w [56] [] rfl (build_slice (s := 3) tab_ok rfl rfl rfl rfl rfl rfl rfl rfl) ?_;refine dreg_w2 [55, 57] [4, 448] rfl (append_one (xs := p) (s := 3) (enc := encPOp) tab_ok o rfl rfl rfl rfl rfl rfl rfl rfl rfl hpl rfl) ?_
  refine dC [58] [456] ?_;refine dreg_end (by kernel_rfl) ?_;refine seq_n ?_;refine sR ?_;iterate 2 refine rQ iM ?_
  refine rQ (len_own tab_ok rfl rfl) ?_;refine rQ (sub_int (m := (l.length : Int)) tab_ok rfl rfl hw) ?_;refine rC ?_;refine rQ (index_own tab_ok rfl rfl rfl rfl rfl (by omega) (by omega)) ?_
  refine reg_store (store_row tab_ok rfl rfl rfl (rupd_last (s := 1) hsz hmm ((Int.toNat_natCast _).trans hml.symm) rfl rfl) rfl) ?_;refine nQ ?_;refine sR ?_;refine rC ?_
  refine rQ (len_own tab_ok rfl rfl) ?_;iterate 2 refine rC ?_
  refine rO ?_;refine rC ?_;refine rO ?_;refine rQ iB ?_;refine rO ?_;refine rQ iE ?_;refine rO ?_;refine rC ?_;refine rQ iF ?_;refine nS ?_;refine wF ?_;refine kS ?_
  refine sR ?_;refine rC ?_;refine nS ?_;refine wc_ret ?_
  exact ⟨trivial, [(65, some 456)], .of rfl rfl rfl rfl rfl ⟨⟨_, rfl, AVLe.of_eq rfl⟩, rfl, trivial⟩ ⟨⟨rfl, rfl, _, rfl, .refl _⟩, ⟨rfl, rfl, _, rfl, .refl _⟩, ⟨rfl, rfl, _, rfl, .refl _⟩, ⟨rfl, chM_lt rfl _, _, rfl, leaf_len rfl hpn rfl⟩, ⟨rfl, rfl, _, rfl, .refl _⟩, trivial⟩⟩
 ·refine sR ?_;refine rC ?_;refine nQ ?_;refine sR ?_;refine rC ?_;refine rQ (eql_s (a := t) (b := sClient) tab_ok rfl rfl rfl) ?_;refine nS ?_;refine wF ?_;refine kS ?_
  refine sR ?_;refine rC ?_;refine rQ (call_r hs rfl rfl (arg_e (arg_e arg_nil)) (.inl rfl) (fun _ => rfl)) ?_;refine rC ?_;refine nQ ?_;refine wc_draw (by kernel_rfl) ?_
  refine dQ [2] [1, 2] iM ?_;refine dC [5] [] ?_;refine dQ [22] [] iA ?_;refine dQ [23] [] iL ?_;refine dQ [21, 24] [2] (lookup2_some (κ := List UInt8) (enc := strD) (l := knownL) (k := a) key_str Tryz.underlying154 rfl rfl rfl hf) ?_
  refine dC [25] [] ?_;iterate 2 refine dC [20] [] ?_
  refine dC [26] [] ?_;refine dC [27] [] ?_;refine dreg_end (by kernel_rfl) ?_;refine seq_n ?_;refine qR ?_;iterate 3 refine rC ?_
  refine rP ?_;refine rQ iM ?_;refine rP ?_;refine rQ (len_own tab_ok rfl rfl) ?_;refine rP ?_;refine rC ?_;refine rQ iG ?_;refine nS ?_;refine wG ?_;refine kS ?_
  refine sR ?_;iterate 2 refine rC ?_
  refine rQ (slice_from (m := 1) tab_ok rfl rfl rfl rfl rfl (Nat.succ_le_succ (Nat.zero_le _))) ?_;refine rQ (call_r hread rfl rfl (arg_e arg_nil) (.inl rfl) (fun _ => rfl)) ?_
  iterate 3 refine rC ?_
  refine rN ?_;refine rW ?_;refine rC ?_;refine nQ ?_;refine sR ?_;iterate 3 refine rC ?_
  refine rP ?_;refine rQ iM ?_;refine rP ?_;refine rQ (call_r hline rfl rfl (arg_e arg_nil) (.inl rfl) (fun _ => rfl)) ?_;refine rP ?_;refine rC ?_;refine rP ?_;refine rQ (neq_s (a := lineP o) (b := t) tab_ok rfl rfl rfl) ?_
  refine rQ iG ?_;refine nS ?_;refine wF ?_;refine kS ?_;refine wc_seq ?_;refine wc_draw (by kernel_rfl) ?_;iterate 2 refine dQ [1] [0, 3] iM ?_
  refine dQ [51] [3] (len_own tab_ok rfl rfl) ?_;refine dQ [52] [] (sub_int (m := (l.length : Int)) tab_ok rfl rfl hw) ?_;refine dQ [50, 53] [3] (index_own tab_ok rfl rfl rfl rfl rfl (by omega) (by omega)) ?_
  refine dQ [54] [3] (load_row tab_ok rfl rfl (rsub_last (s := 1) (A := .own 4 0 p.length 3 none) hsz hmm ((Int.toNat_natCast _).trans hml.symm)) rfl) ?_;refine dQ [8] [304] iM ?_
  refine dreg_w [56] [] rfl (build_slice (s := 3) tab_ok rfl rfl rfl rfl rfl rfl rfl rfl) ?_;refine dreg_w2 [55, 57] [4, 448] rfl (append_one (xs := p) (s := 3) (enc := encPOp) tab_ok o rfl rfl rfl rfl rfl rfl rfl rfl rfl hpl rfl) ?_
  refine dC [58] [456] ?_;refine dreg_end (by kernel_rfl) ?_;refine seq_n ?_;refine sR ?_;iterate 2 refine rQ iM ?_
  refine rQ (len_own tab_ok rfl rfl) ?_;refine rQ (sub_int (m := (l.length : Int)) tab_ok rfl rfl hw) ?_;refine rC ?_;refine rQ (index_own tab_ok rfl rfl rfl rfl rfl (by omega) (by omega)) ?_
  refine reg_store (store_row tab_ok rfl rfl rfl (rupd_last (s := 1) hsz hmm ((Int.toNat_natCast _).trans hml.symm) rfl rfl) rfl) ?_;refine nQ ?_;refine sR ?_;refine rC ?_
  refine rQ (len_own tab_ok rfl rfl) ?_;iterate 2 refine rC ?_
  refine rO ?_;refine rC ?_;refine rO ?_;refine rQ iB ?_;refine rO ?_;refine rQ iE ?_;refine rO ?_;refine rC ?_;refine rQ iF ?_;refine nS ?_;refine wT ?_;refine sR ?_
  refine rC ?_;refine nS ?_;refine wc_ret ?_;refine seq_r ?_
  exact ⟨trivial, [(65, some 456)], .of rfl rfl rfl rfl rfl ⟨⟨_, rfl, AVLe.of_eq rfl⟩, rfl, trivial⟩ ⟨⟨rfl, rfl, _, rfl, .refl _⟩, ⟨rfl, rfl, _, rfl, .refl _⟩, ⟨rfl, rfl, _, rfl, .refl _⟩, ⟨rfl, chM_lt rfl _, _, rfl, leaf_len rfl hpn rfl⟩, ⟨rfl, rfl, _, rfl, .refl _⟩, trivial⟩⟩
 ·refine sR ?_;refine rC ?_;refine nQ ?_;refine sR ?_;refine rC ?_;refine rQ (eql_s (a := t) (b := sClient) tab_ok rfl rfl rfl) ?_;refine nS ?_;refine wF ?_;refine kS ?_
  refine sR ?_;refine rC ?_;refine rQ (call_r hs rfl rfl (arg_e (arg_e arg_nil)) (.inl rfl) (fun _ => rfl)) ?_;refine rC ?_;refine nQ ?_;refine wc_draw (by kernel_rfl) ?_
  refine dQ [2] [1, 2] iM ?_;refine dC [5] [] ?_;refine dQ [22] [] iA ?_;refine dQ [23] [] iL ?_;refine dQ [21, 24] [2] (lookup2_some (κ := List UInt8) (enc := strD) (l := knownL) (k := a) key_str Tryz.underlying154 rfl rfl rfl hf) ?_
  refine dC [25] [] ?_;iterate 2 refine dC [20] [] ?_
  refine dC [26] [] ?_;refine dC [27] [] ?_;refine dreg_end (by kernel_rfl) ?_;refine seq_n ?_;refine qR ?_;iterate 3 refine rC ?_
  refine rP ?_;refine rQ iM ?_;refine rP ?_;refine rQ (len_own tab_ok rfl rfl) ?_;refine rP ?_;refine rC ?_;refine rQ iG ?_;refine nS ?_;refine wG ?_;refine kS ?_
  refine sR ?_;iterate 2 refine rC ?_
  refine rQ (slice_from (m := 1) tab_ok rfl rfl rfl rfl rfl (Nat.succ_le_succ (Nat.zero_le _))) ?_;refine rQ (call_r hread rfl rfl (arg_e arg_nil) (.inl rfl) (fun _ => rfl)) ?_
  iterate 3 refine rC ?_
  refine rN ?_;refine rW ?_;refine rC ?_;refine nQ ?_;refine sR ?_;iterate 3 refine rC ?_
  refine rP ?_;refine rQ iM ?_;refine rP ?_;refine rQ (call_r hline rfl rfl (arg_e arg_nil) (.inl rfl) (fun _ => rfl)) ?_;refine rP ?_;refine rC ?_;refine rP ?_;refine rQ (neq_s (a := lineP o) (b := t) tab_ok rfl rfl rfl) ?_
  refine rQ iG ?_;refine nS ?_;refine wF ?_;refine kS ?_;refine wc_seq ?_;refine wc_draw (by kernel_rfl) ?_;iterate 2 refine dQ [1] [0, 3] iM ?_
  refine dQ [51] [3] (len_own tab_ok rfl rfl) ?_;refine dQ [52] [] (sub_int (m := (l.length : Int)) tab_ok rfl rfl hw) ?_;refine dQ [50, 53] [3] (index_own tab_ok rfl rfl rfl rfl rfl (by omega) (by omega)) ?_
  refine dQ [54] [3] (load_row tab_ok rfl rfl (rsub_last (s := 1) (A := .own 4 0 p.length 3 none) hsz hmm ((Int.toNat_natCast _).trans hml.symm)) rfl) ?_;refine dQ [8] [304] iM ?_
  refine dreg_w [56] [] rfl (build_slice (s := 3) tab_ok rfl rfl rfl rfl rfl rfl rfl rfl) ?_;refine dreg_w2 [55, 57] [4, 448] rfl (append_one (xs := p) (s := 3) (enc := encPOp) tab_ok o rfl rfl rfl rfl rfl rfl rfl rfl rfl hpl rfl) ?_
  refine dC [58] [456] ?_;refine dreg_end (by kernel_rfl) ?_;refine seq_n ?_;refine sR ?_;iterate 2 refine rQ iM ?_
  refine rQ (len_own tab_ok rfl rfl) ?_;refine rQ (sub_int (m := (l.length : Int)) tab_ok rfl rfl hw) ?_;refine rC ?_;refine rQ (index_own tab_ok rfl rfl rfl rfl rfl (by omega) (by omega)) ?_
  refine reg_store (store_row tab_ok rfl rfl rfl (rupd_last (s := 1) hsz hmm ((Int.toNat_natCast _).trans hml.symm) rfl rfl) rfl) ?_;refine nQ ?_;refine sR ?_;refine rC ?_
  refine rQ (len_own tab_ok rfl rfl) ?_;iterate 2 refine rC ?_
  iterate 4 refine rS ?_
  refine rQ iT ?_;refine nS ?_;refine wV ?_;refine sR ?_;refine rC ?_;refine nS ?_;refine wc_ret ?_;refine seq_r ?_
  exact ⟨trivial, [(65, some 456)], .of rfl rfl rfl rfl rfl ⟨⟨_, rfl, AVLe.of_eq rfl⟩, rfl, trivial⟩ ⟨⟨rfl, rfl, _, rfl, .refl _⟩, ⟨rfl, rfl, _, rfl, .refl _⟩, ⟨rfl, rfl, _, rfl, .refl _⟩, ⟨rfl, chM_lt rfl _, _, rfl, leaf_len rfl hpn rfl⟩, ⟨rfl, rfl, _, rfl, .refl _⟩, trivial⟩⟩
 ·refine sR ?_;refine rC ?_;refine nQ ?_;refine sR ?_;refine rC ?_;refine rQ (eql_s (a := t) (b := sClient) tab_ok rfl rfl rfl) ?_;refine nS ?_;refine wF ?_;refine kS ?_
  refine sR ?_;refine rC ?_;refine rQ (call_r hs rfl rfl (arg_e (arg_e arg_nil)) (.inl rfl) (fun _ => rfl)) ?_;refine rC ?_;refine nQ ?_;refine wc_draw (by kernel_rfl) ?_
  refine dQ [2] [1, 2] iM ?_;refine dC [5] [] ?_;refine dQ [22] [] iA ?_;refine dQ [23] [] iL ?_;refine dQ [21, 24] [2] (lookup2_some (κ := List UInt8) (enc := strD) (l := knownL) (k := a) key_str Tryz.underlying154 rfl rfl rfl hf) ?_
  refine dC [25] [] ?_;iterate 2 refine dC [20] [] ?_
  refine dC [26] [] ?_;refine dC [27] [] ?_;refine dreg_end (by kernel_rfl) ?_;refine seq_n ?_;refine qR ?_;iterate 3 refine rC ?_
  refine rP ?_;refine rQ iM ?_;refine rP ?_;refine rQ (len_own tab_ok rfl rfl) ?_;refine rP ?_;refine rC ?_;refine rQ iG ?_;refine nS ?_;refine wG ?_;refine kS ?_
  refine sR ?_;iterate 2 refine rC ?_
  refine rQ (slice_from (m := 1) tab_ok rfl rfl rfl rfl rfl (Nat.succ_le_succ (Nat.zero_le _))) ?_;refine rQ (call_r hread rfl rfl (arg_e arg_nil) (.inl rfl) (fun _ => rfl)) ?_
  iterate 3 refine rC ?_
  refine rN ?_;refine rW ?_;refine rC ?_;refine nQ ?_;refine sR ?_;iterate 3 refine rC ?_
  refine rP ?_;refine rQ iM ?_;refine rP ?_;refine rQ (call_r hline rfl rfl (arg_e arg_nil) (.inl rfl) (fun _ => rfl)) ?_;refine rP ?_;refine rC ?_;refine rP ?_;refine rQ (neq_s (a := lineP o) (b := t) tab_ok rfl rfl rfl) ?_
  refine rQ iG ?_;refine nS ?_;refine wF ?_;refine kS ?_;refine wc_seq ?_;refine wc_draw (by kernel_rfl) ?_;iterate 2 refine dQ [1] [0, 3] iM ?_
  refine dQ [51] [3] (len_own tab_ok rfl rfl) ?_;refine dQ [52] [] (sub_int (m := (l.length : Int)) tab_ok rfl rfl hw) ?_;refine dQ [50, 53] [3] (index_own tab_ok rfl rfl rfl rfl rfl (by omega) (by omega)) ?_
  refine dQ [54] [3] (load_row tab_ok rfl rfl (rsub_last (s := 1) (A := .own 4 0 p.length 3 none) hsz hmm ((Int.toNat_natCast _).trans hml.symm)) rfl) ?_;refine dQ [8] [304] iM ?_
  refine dreg_w [56] [] rfl (build_slice (s := 3) tab_ok rfl rfl rfl rfl rfl rfl rfl rfl) ?_;refine dreg_w2 [55, 57] [4, 448] rfl (append_one (xs := p) (s := 3) (enc := encPOp) tab_ok o rfl rfl rfl rfl rfl rfl rfl rfl rfl hpl rfl) ?_
  refine dC [58] [456] ?_;refine dreg_end (by kernel_rfl) ?_;refine seq_n ?_;refine sR ?_;iterate 2 refine rQ iM ?_
  refine rQ (len_own tab_ok rfl rfl) ?_;refine rQ (sub_int (m := (l.length : Int)) tab_ok rfl rfl hw) ?_;refine rC ?_;refine rQ (index_own tab_ok rfl rfl rfl rfl rfl (by omega) (by omega)) ?_
  refine reg_store (store_row tab_ok rfl rfl rfl (rupd_last (s := 1) hsz hmm ((Int.toNat_natCast _).trans hml.symm) rfl rfl) rfl) ?_;refine nQ ?_;refine sR ?_;refine rC ?_
  refine rQ (len_own tab_ok rfl rfl) ?_;iterate 2 refine rC ?_
  iterate 4 refine rS ?_
  refine rQ iT ?_;refine nS ?_;refine wV ?_;refine sR ?_;refine rC ?_;refine nS ?_;refine wc_ret ?_;refine seq_r ?_
  exact ⟨trivial, [(65, some 456)], .of rfl rfl rfl rfl rfl ⟨⟨_, rfl, AVLe.of_eq rfl⟩, rfl, trivial⟩ ⟨⟨rfl, rfl, _, rfl, .refl _⟩, ⟨rfl, rfl, _, rfl, .refl _⟩, ⟨rfl, rfl, _, rfl, .refl _⟩, ⟨rfl, chM_lt rfl _, _, rfl, leaf_len rfl hpn rfl⟩, ⟨rfl, rfl, _, rfl, .refl _⟩, trivial⟩⟩
end Go.Proofs.YtmojbghcngdkpaaGreatDoor
namespace Go.Proofs.YtmojbghcngdkpaaGreatDoor
open Go.Eng Go.Plain
theorem opW_some {w : List (List UInt8)} (h : (opW w).2 = true) : ∃ k i d, w = [k, i, d] ∧ opF k i d = some (opW w).1 := by
 unfold opW at h ⊢
 split
 ·rename_i k i d
  exact ⟨k, i, d, rfl, by rw [opF_is, if_pos h]⟩
 ·rename_i hn
  split at h
  ·rename_i k i d
   exact absurd rfl (hn k i d)
  ·cases h
theorem opW_none {k i d : List UInt8} (h : (opW [k, i, d]).2 = false) : opF k i d = none := by
 rw [opF_is, if_neg]
 intro hc
 rw [show (opW [k, i, d]).2 = opOk k i d from rfl, hc] at h
 cases h
theorem opF_len {k i d : List UInt8} {o : POp} (h : opF k i d = some o) (hd : d.length ≤ 1048576) : o.data.length ≤ 524288 := by
 simp only [opF] at h
 split at h
 ·rename_i d' _ _ h3
  cases h
  have := unhex_len h3
  simp only
  omega
 ·cases h
theorem read_case (a : List UInt8) (r : List (List UInt8)) (hw : ∀ x ∈ r, x.length ≤ 1048576) (hl : a.length + r.length ≤ 1048576) :
  (findC a knownL 0 = none ∧ readW (a :: r) = none) ∨ ∃ j f o b, findC a knownL 0 = some (j, fnA f) ∧ FnIs Tryz.prog f [.d (.arr 1 strD r)] [] (opR o b) [] ∧ (b = true → readW (a :: r) = some o ∧ o.Ok ∧ o.data.length ≤ 524288) ∧ (b = false → readW (a :: r) = none) := by
 have fin : ∀ (ws : List (List UInt8)), (∀ x ∈ ws, x.length ≤ 1048576) → (∀ o, readW (a :: r) = some o → o.Ok) → (∀ k i d, ws = [k, i, d] → readW (a :: r) = opF k i d) → ((∀ k i d, ws ≠ [k, i, d]) → readW (a :: r) = none) →
   ((opW ws).2 = true → readW (a :: r) = some (opW ws).1 ∧ (opW ws).1.Ok ∧ (opW ws).1.data.length ≤ 524288) ∧ ((opW ws).2 = false → readW (a :: r) = none) := by
  intro ws hx hk h1 h2
  constructor
  ·intro h
   obtain ⟨k, i, d, e, h3⟩ := opW_some h
   have h4 : readW (a :: r) = some (opW ws).1 := (h1 k i d e).trans h3
   exact ⟨h4, hk _ h4, opF_len h3 (hx d (by rw [e]; simp))⟩
  ·intro h
   by_cases hs : ∃ k i d, ws = [k, i, d]
   ·obtain ⟨k, i, d, rfl⟩ := hs
    exact (h1 k i d rfl).trans (opW_none h)
   ·exact h2 fun k i d e => hs ⟨k, i, d, e⟩
 have hok : ∀ o, readW (a :: r) = some o → o.Ok := fun o h => readW_ok h
 by_cases h1 : a = sRead
 ·subst h1
  refine .inr ⟨0, 126, _, _, rfl, reader1_is r hw (by simp [sRead, sWrite, sFlush] at hl; omega), ?_⟩
  refine fin _ ?_ hok ?_ ?_
  ·intro x hx
   rcases List.mem_cons.1 hx with rfl | hx
   ·decide
   ·rcases List.mem_append.1 hx with hx | hx
    ·exact hw x hx
    ·rw [List.mem_singleton.1 hx]; decide
  ·intro k i d e
   match r, e with
   | [x], e => cases e; simp [readW]
   | [], e => cases e
   | _ :: _ :: _, e => simp at e
  ·intro hn
   match r, hn with
   | [x], hn => exact absurd rfl (hn [49] x [45])
   | [], _ => simp [readW]
   | _ :: _ :: _, _ => simp [readW]
 by_cases h2 : a = sWrite
 ·subst h2
  refine .inr ⟨1, 129, _, _, rfl, reader2_is r hw (by simp [sRead, sWrite, sFlush] at hl; omega), ?_⟩
  refine fin _ ?_ hok ?_ ?_
  ·intro x hx
   rcases List.mem_cons.1 hx with rfl | hx
   ·decide
   ·exact hw x hx
  ·intro k i d e
   match r, e with
   | [x, y], e => cases e; simp [readW, h1]
   | [], e => cases e
   | [_], e => cases e
   | _ :: _ :: _ :: _, e => simp at e
  ·intro hn
   match r, hn with
   | [x, y], hn => exact absurd rfl (hn [50] x y)
   | [], _ => simp [readW, h1]
   | [_], _ => simp [readW, h1]
   | _ :: _ :: _ :: _, _ => simp [readW, h1]
 by_cases h3 : a = sFlush
 ·subst h3
  refine .inr ⟨2, 130, _, _, rfl, reader3_is r hw (by simp [sRead, sWrite, sFlush] at hl; omega), ?_⟩
  refine fin _ ?_ hok ?_ ?_
  ·intro x hx
   simp only [List.mem_cons] at hx
   rcases hx with rfl | rfl | rfl | hx
   ·decide
   ·decide
   ·decide
   ·exact hw x hx
  ·intro k i d e
   match r, e with
   | [], e => cases e; simp [readW, h1, h2]
   | _ :: _, e => simp at e
  ·intro hn
   match r, hn with
   | [], hn => exact absurd rfl (hn [51] [48] [45])
   | _ :: _, _ => simp [readW, h1, h2]
 by_cases h4 : a = sOp
 ·subst h4
  refine .inr ⟨3, 127, _, _, rfl, operation_is r hw, ?_⟩
  refine fin _ hw hok ?_ ?_
  ·intro k i d e
   subst e
   simp [readW, h1, h2, h3]
  ·intro hn
   match r, hn with
   | [k, i, d], hn => exact absurd rfl (hn k i d)
   | [], _ => simp [readW, h1, h2, h3]
   | [_], _ => simp [readW, h1, h2, h3]
   | [_, _], _ => simp [readW, h1, h2, h3]
   | _ :: _ :: _ :: _ :: _, _ => simp [readW, h1, h2, h3]
 ·refine .inl ⟨?_, by simp [readW, h1, h2, h3, h4]⟩
  simp [knownL, findC, Ne.symm h1, Ne.symm h2, Ne.symm h3, Ne.symm h4, h1, h2, h3, h4]
abbrev addC : FuncId := 93
abbrev addA (t : List UInt8) : List AV := [.d (strD t), .ptr 0 [], .ptr 1 []]
theorem add_none {t : List UInt8} (ht : t ≠ sClient) (hl : t.length ≤ 1048575) : (addP [] t).2 = 5 ∧ FnIs Tryz.prog addC (addA t) S0 (.d (i6 5)) S0 := by
 have h5 : (addP [] t).2 = 5 := by
  simp only [addP, if_neg ht]
  cases readP t <;> rfl
 refine ⟨h5, ?_⟩
 cases hs : splitL t 32 with
 | nil => exact absurd hs (splitL_ne t 32)
 | cons a r =>
  have hh := split_head hs
  have hw : ∀ x ∈ r, x.length ≤ 1048576 := fun x hx => by
   have := split_mem_le t 32 x (by rw [hs]; simp [hx])
   omega
  rcases read_case a r hw (by omega) with ⟨hf, _⟩ | ⟨j, f, o, b, hf, _⟩
  ·exact add_unk0 t a r ht (by omega) hs hf
  ·exact add_known0 t a r ht (by omega) hs f j hf
theorem add_some {t : List UInt8} (ht : t ≠ sClient) (hl : t.length ≤ 1048575) (l : List (List POp)) (p : List POp) (hll : l.length ≤ 1000) (hpp : p.length ≤ 1000) :
  (∃ e : Int, e ≠ 0 ∧ (addP (l ++ [p]) t).2 = e ∧ (FnIs Tryz.prog addC (addA t) (S1 3 4 l p) (.d (i6 e)) (S1 3 4 l p) ∨ ∃ o, FnIs Tryz.prog addC (addA t) (S1 3 4 l p) (.d (i6 e)) (S1 3 65 l (p ++ [o])))) ∨
  ∃ o, addP (l ++ [p]) t = (l ++ [p ++ [o]], 0) ∧ FnIs Tryz.prog addC (addA t) (S1 3 4 l p) (.d (i6 0)) (S1 3 65 l (p ++ [o])) := by
 cases hs : splitL t 32 with
 | nil => exact absurd hs (splitL_ne t 32)
 | cons a r =>
  have hh := split_head hs
  have hw : ∀ x ∈ r, x.length ≤ 1048576 := fun x hx => by
   have := split_mem_le t 32 x (by rw [hs]; simp [hx])
   omega
  have hno : readP t = none → (addP (l ++ [p]) t).2 = 5 := fun h => by simp only [addP, if_neg ht, h]
  rcases read_case a r hw (by omega) with ⟨hf, hr⟩ | ⟨j, f, o, b, hf, hread, hb1, hb2⟩
  ·exact .inl ⟨5, by decide, hno (by simp only [readP, hs, hr]), .inl (add_unk1 t a r ht (by omega) hs hf l p)⟩
  ·cases b with
   | false => exact .inl ⟨5, by decide, hno (by simp only [readP, hs, hb2 rfl]), .inl (add_bad1 t a r ht (by omega) hs f j hf o hread l p hll)⟩
   | true =>
    obtain ⟨h1, h2, h3⟩ := hb1 rfl
    by_cases he : lineP o = t
    ·have hr : readP t = some o := by simp only [readP, hs, h1, if_pos he]
     have hok := add_ok1 t a r ht (by omega) hs f j hf o h2 h3 hread l p hll hpp he _ _ rfl rfl
     have hne : ¬ (l ++ [p] = []) := by simp
     have hg : (l ++ [p]).getLast?.getD [] = p := by simp
     have hbl : (byI o.data).length = o.data.length := byI_len _
     by_cases hbig : 64 < p.length + 1 ∨ 64 < o.data.length
     ·have hb : (decide (64 < ((p.length + 1 : Nat) : Int)) || decide (64 < ((byI o.data).length : Int))) = true := by
       rw [Bool.or_eq_true, decide_eq_true_eq, decide_eq_true_eq, hbl]
       rcases hbig with h | h
       ·exact .inl (by omega)
       ·exact .inr (by omega)
      rw [hb] at hok
      refine .inl ⟨3, by decide, ?_, .inr ⟨o, hok⟩⟩
      simp only [addP, if_neg ht, hr, if_neg hne, hg, if_pos hbig]
     ·have hb : (decide (64 < ((p.length + 1 : Nat) : Int)) || decide (64 < ((byI o.data).length : Int))) = false := by
       rw [Bool.or_eq_false_iff, decide_eq_false_iff_not, decide_eq_false_iff_not, hbl]
       exact ⟨by omega, by omega⟩
      rw [hb] at hok
      refine .inr ⟨o, ?_, hok⟩
      simp only [addP, if_neg ht, hr, if_neg hne, hg, if_neg hbig, lastApp_snoc]
    ·exact .inl ⟨5, by decide, hno (by simp only [readP, hs, h1, if_neg he]), .inl (add_ne1 t a r ht (by omega) hs f j hf o h2 h3 hread l p hll he)⟩
end Go.Proofs.YtmojbghcngdkpaaGreatDoor
namespace Go.Proofs.YtmojbghcngdkpaaGreatDoor
open Go.Eng Go.Plain
set_option maxHeartbeats 4000000
set_option maxRecDepth 20000
attribute [local irreducible] WC RegS RegD SeqQ BlkQ ScoQ RegK CutK Sat SatN FnIs LoopQ StepIs OpIs
abbrev parR (l : List (List POp)) (n : Nat) (e : Int) : AV := .tup (.acons (.d (.arx 1 encXP l)) (.acons (.int .i64 n) (.acons (.d (i6 e)) .anil)))
theorem nil_arx {α : Type} (s : Nat) (enc : α → D) : AVLe (.d (.sc nil_)) (.d (.arx s enc [])) := fun σ w X v h => AVLe.empty_arx s enc σ w X v (AVLe.nil_empty σ w X v h)
def toL : Option (List (List POp) × List POp) → List (List POp)
 | none => []
 | some (l, p) => l ++ [p]
abbrev addF : AV := .fn (.func 93) .anil (.acons (.ptr 65 []) (.acons (.ptr 66 []) .anil))
@[reducible] noncomputable def pSt : Option (List (List POp) × List POp) × List UInt8 × Nat → St
 | (none, s, n) => ⟨[(6, addF), (3, .int .i64 n), (2, .ptr 65 []), (0, .d (strD s))], [(65, some (.box 72 (.own 68 0 0 1 none))), (66, some (.box 154 (.mapr 67))), (67, some (.mo (mapC strD knownL))), (68, some (.ds 77 1 false encO []))], 72, Tryz.f47.ntmps, 64⟩
 | (some (l, p), s, n) => ⟨[(6, addF), (3, .int .i64 n), (2, .ptr 65 []), (0, .d (strD s))], [(65, some (.box 72 (.own 68 0 (l.length + 1) 1 none))), (66, some (.box 154 (.mapr 67))), (67, some (.mo (mapC strD knownL))), (68, some (rowL p l (l.length + 1) 69)), (69, some (rowP p))], 72, Tryz.f47.ntmps, 64⟩
theorem leaf_ren {b b' c : Nat} {p : List POp} {l : List (List POp)} {m m' : Nat} {ρ ρ' : Nat → Option Nat} (hm : m = m') (h1 : ρ b = some c) (h2 : ρ' b' = some c) : RowLe (Row.ren ρ (rowL p l m b)) (Row.ren ρ' (rowL p l m' b')) := by
 subst hm
 show RowLe (.lits _ _ _ _ (AV.ren ρ (chM _ _))) (.lits _ _ _ _ (AV.ren ρ' (chM _ _)))
 rw [chM_ren, chM_ren]
 have e1 : AV.ren ρ (.own b 0 p.length 3 none) = .own c 0 p.length 3 none := by simp [AV.ren, h1]
 have e2 : AV.ren ρ' (.own b' 0 p.length 3 none) = .own c 0 p.length 3 none := by simp [AV.ren, h2]
 rw [e1, e2]
 exact .refl _
theorem arr_map {α β : Type} {s : Nat} {enc : α → D} {enc' : β → D} {g : β → α} {xs : List β} {ys : List α} (hy : ys = xs.map g) (h : ∀ x, enc (g x) = enc' x) : ∀ (σ : Eng.Place) (w : World) (X : Nat → Prop) (cs : List Value), Rel σ w X (.d (.arr s enc ys)) false cs → Rel σ w X (.d (.arr s enc' xs)) false cs := by
 subst hy
 intro σ w X v hv
 rcases hv with ⟨h1, rfl⟩ | ⟨a, c, rfl, h2, h3, f, hf⟩
 ·exact .inl ⟨by simpa using h1, rfl⟩
 ·refine .inr ⟨a, c, by rw [List.length_map], by rw [List.length_map] at h2; exact h2, h3, f, fun i hi => ?_⟩
  have := hf i (by rw [List.length_map]; exact hi)
  rw [List.getElem_map, h] at this
  exact this
theorem arr_nilR {α β : Type} {s : Nat} (enc : α → D) (enc' : β → D) : ∀ (σ : Eng.Place) (w : World) (X : Nat → Prop) (cs : List Value), Rel σ w X (.d (.arr s enc [])) false cs → Rel σ w X (.d (.arr s enc' [])) false cs := by
 intro σ w X v hv
 rcases hv with ⟨_, rfl⟩ | ⟨a, c, rfl, h2, h3, f, _⟩
 ·exact .inl ⟨rfl, rfl⟩
 ·exact .inr ⟨a, c, rfl, h2, h3, f, fun i hi => absurd hi (Nat.not_lt_zero _)⟩
def enc2 : Bool × List POp → D
 | (true, p) => encXP p
 | (false, p) => encP p
theorem enc2_size (x : Bool × List POp) : (enc2 x).size = 1 := by obtain ⟨b, p⟩ := x; cases b <;> rfl
def mkL (L : List (List POp)) (i : Nat) : List (Bool × List POp) := (L.take i).map (fun p => (true, p)) ++ (L.drop i).map (fun p => (false, p))
theorem mkL_len (L : List (List POp)) (i : Nat) : (mkL L i).length = L.length := by simp [mkL]; omega
theorem mkL_get {L : List (List POp)} {i : Nat} {x : List POp} (h : L[i]? = some x) : (mkL L i)[i]? = some (false, x) := by
 have hi : i < L.length := (List.getElem?_eq_some_iff.1 h).1
 rw [mkL, List.getElem?_append_right (by simp; omega)]
 simp only [List.length_map, List.length_take, Nat.min_eq_left (Nat.le_of_lt hi), Nat.sub_self, List.getElem?_map, List.getElem?_drop, Nat.add_zero, h, Option.map_some]
theorem mkL_set {L : List (List POp)} {i : Nat} {x : List POp} (h : L[i]? = some x) : (mkL L i).set i (true, x) = mkL L (i + 1) := by
 have hi : i < L.length := (List.getElem?_eq_some_iff.1 h).1
 have hx : L[i] = x := (List.getElem?_eq_some_iff.1 h).2
 rw [mkL, mkL, List.set_append_right _ _ (by simp; omega), List.drop_eq_getElem_cons hi, hx, List.take_add_one, h]
 simp [Nat.min_eq_left (Nat.le_of_lt hi)]
def PInv (s0 : List UInt8) : Option (List (List POp) × List POp) × List UInt8 × Nat → Prop
 | (q, s, n) => parseP s (toL q) n = parseP s0 [] 1 ∧ chkP (toL q) = 0 ∧ OkL (toL q) ∧ s.length + n ≤ s0.length + 1 ∧ 1 ≤ n
theorem cut_len {s t r : List UInt8} {c : UInt8} (h : cutL s c = some (t, r)) : t.length + r.length + 1 = s.length := by
 rw [(cutL_some h).1]; simp; omega
theorem parse_main (s0 : List UInt8) (hl : s0.length ≤ 1048576) : FnIs Tryz.prog 47 [.d (strD s0)] [] (parR (parseP s0 [] 1).1 (parseP s0 [] 1).2.1 (parseP s0 [] 1).2.2) [] := by
 have hd : decide (1048576 < (s0.length : Int)) = false := dF (by omega)
 refine fnIs_of tab_ok Tryz.func47 rfl rfl rfl ?_;refine sR ?_;refine rN ?_;iterate 2 refine rC ?_
 refine nQ ?_;refine sR ?_;refine rC ?_;refine rQ (len_s tab_ok rfl rfl) ?_;refine rC ?_;refine nS ?_;refine wF ?_;refine kS ?_;refine sR ?_;refine reg_new (call_new readers_is rfl rfl arg_nil (.inl rfl) rfl rfl) rfl ?_
 refine rN ?_;refine rW ?_;refine nR ?_;iterate 2 refine rC ?_
 refine nQ ?_;refine sR ?_;refine rC ?_;refine nS ?_;refine wc_block ?_
 refine wc_inv pSt (PInv s0) (fun a => a.2.1.length) (none, s0, 1) [(65, some 64), (66, some 120), (67, some 112), (68, none)] ⟨rfl, rfl, by intro p hp; simp [toL] at hp, Nat.le_refl _, Nat.le_refl _⟩
  (.of rfl rfl rfl rfl rfl ⟨⟨_, rfl, .refl _⟩, rfl, ⟨_, rfl, .refl _⟩, rfl, ⟨_, rfl, .refl _⟩, rfl, ⟨_, rfl, .refl _⟩, rfl, trivial⟩ ⟨⟨rfl, rfl, _, rfl, .refl _⟩, ⟨rfl, rfl, _, rfl, .refl _⟩, ⟨rfl, rfl, _, rfl, .refl _⟩, ⟨rfl, rfl, rfl⟩, trivial⟩) ?_
 rintro ⟨q, s, n⟩ ⟨hp, hc0, hok, hn, hn1⟩
 by_cases hs : s = []
 ·have hR : parseP s0 [] 1 = (toL q, 0, 0) := by rw [← hp, hs, parseP_nil]
  rw [hR]
  have hs1 : (!decide (s = [])) = false := by rw [hs]; rfl
  cases q with
  | none =>
   have hcl := clones_is [] (by decide)
   have hcp := clips_is []
   refine wc_of ?_;refine qR ?_;refine rC ?_;refine rQ (neq_s (a := s) (b := []) tab_ok rfl rfl rfl) ?_;refine nS ?_;refine wF ?_;refine wc_exit ?_;refine seq_x ?_
   refine loop_x ?_;refine blk_x ?_;refine seq_n ?_;refine qR ?_;refine rQ iM ?_;refine rQ (len_own tab_ok rfl rfl) ?_;refine rC ?_;refine nS ?_;refine wc_block ?_
   refine wc_once ?_;refine sR ?_;refine rC ?_;refine nQ ?_;refine wG ?_;refine wc_exit ?_;refine seq_x ?_;refine loop_x ?_;refine blk_x ?_;refine seq_n ?_;refine sR ?_
   refine rQ iM ?_;refine reg_freeze (env' := [(53, _), (2, _)]) (h' := [(65, some _)]) 68 _ rfl ⟨⟨_, rfl, Frz.le (y := .d (.arr 1 encXP [])) (Frz.own rfl) rfl (fun _ => rfl) (fun _ _ => trivial) (arr_nilR encO encXP)⟩, ⟨_, rfl, .refl _⟩, trivial⟩ ⟨⟨rfl, _, rfl, .refl _⟩, trivial⟩ ?_
   refine rQ (call_r hcl rfl rfl (arg_e arg_nil) (.inl rfl) (fun _ => rfl)) ?_;refine rQ (call_r hcp rfl rfl (arg_e arg_nil) (.inl rfl) (fun _ => rfl)) ?_;refine rW ?_
   iterate 2 refine rC ?_
   refine nS ?_;refine wc_ret ?_
   exact ⟨trivial, _, rfl, [], lf⟩
  | some lp =>
   obtain ⟨l, p⟩ := lp
   obtain ⟨c1, c2⟩ := chkP_ok.1 hc0
   have hl8 : l.length + 1 ≤ 8 := by simpa [toL] using c1
   have hLl : (l ++ [p]).length = l.length + 1 := by simp
   have hcl := clones_is (l ++ [p]) (by rw [hLl]; omega)
   have hcp := clips_is (l ++ [p])
   refine wc_of ?_;refine qR ?_;refine rC ?_;refine rQ (neq_s (a := s) (b := []) tab_ok rfl rfl rfl) ?_;refine nS ?_;refine wF ?_;refine wc_exit ?_;refine seq_x ?_
   refine loop_x ?_;refine blk_x ?_;refine seq_n ?_;refine qR ?_;refine reg_freeze (env' := [(2, _)]) (h' := [(65, some _), (68, some _)]) 69 _ rfl ⟨⟨_, rfl, .refl _⟩, trivial⟩ ⟨⟨rfl, _, rfl, .refl _⟩, ⟨rfl, _, rfl, FrzR.last (enc := enc2) (xs := l.map (fun p => (false, p))) (y := (false, p)) rfl rfl (by simp) enc2_size (by simp [enc2])⟩, trivial⟩ ?_
   refine rQ iM ?_;refine rQ (len_own tab_ok rfl rfl) ?_;refine rC ?_;refine nS ?_;refine wc_block ?_
   refine wc_inv (fun i : Nat => ⟨[(40, .int .i64 i), (39, .int .i64 ((l.length + 1 : Nat) : Int)), (2, .ptr 65 [])], [(65, some (.box 72 (.own 68 0 (l.length + 1) 1 none))), (68, some (.ds 77 1 false enc2 (mkL (l ++ [p]) i)))], 72, Tryz.f47.ntmps, 64⟩) (fun i => i ≤ l.length + 1) (fun i => l.length + 1 - i) 0 [] (Nat.zero_le _)
    (.of rfl rfl rfl rfl rfl ⟨⟨_, rfl, .refl _⟩, rfl, ⟨_, rfl, .refl _⟩, rfl, ⟨_, rfl, .refl _⟩, rfl, trivial⟩ ⟨⟨rfl, rfl, _, rfl, .refl _⟩, ⟨rfl, rfl, _, rfl, RowLe.of_eq (by simp [mkL]; rfl)⟩, trivial⟩) ?_
   intro i hi
   refine wc_of ?_;refine sR ?_;refine rC ?_;refine nQ ?_
   refine wc_cond rfl (fun h3 => ?_) (fun h3 => ?_)
   ·have hlt : i < l.length + 1 := by have := of_decide_eq_true h3; omega
    obtain ⟨x, hx⟩ : ∃ x, (l ++ [p])[i]? = some x := ⟨_, List.getElem?_eq_getElem (by rw [hLl]; exact hlt)⟩
    have hxl : x.length ≤ 1048576 := by
     have := c2 x (List.mem_of_getElem? hx)
     simp only [badP, Bool.or_eq_false_iff, decide_eq_false_iff_not] at this
     omega
    have hgx : (mkL (l ++ [p]) i)[((i : Int)).toNat]? = some (false, x) := by rw [Int.toNat_natCast]; exact mkL_get hx
    have hset := mkL_set hx
    have hc1 := clone_is x hxl
    have hc2 := clip_is x
    refine kS ?_;refine wc_seq ?_;refine wc_block ?_;refine sR ?_;iterate 2 refine rC ?_
    refine nS ?_;refine wc_draw (by kernel_rfl) ?_;refine dQ [2] [65, 68] iM ?_;refine dC [11] [] ?_;refine dQ [2] [65, 68] iM ?_;refine dC [11] [] ?_;refine dQ [45, 46] [68] (index_own tab_ok rfl rfl rfl rfl rfl (by omega) (by omega)) ?_
    refine dQ [47] [68] (load_row tab_ok rfl rfl ⟨rfl, (false, x), hgx, _, rfl, rfl⟩ rfl) ?_;refine dQ [48] [] (call_r hc1 rfl rfl (arg_e arg_nil) (.inl rfl) (fun _ => rfl)) ?_
    refine dQ [49] [] (call_r hc2 rfl rfl (arg_e arg_nil) (.inl rfl) (fun _ => rfl)) ?_;refine dQ [43, 44] [68] (index_own tab_ok rfl rfl rfl rfl rfl (by omega) (by omega)) ?_
    refine dreg_s [51, 50] [68] (store_row tab_ok rfl rfl rfl ⟨rfl, (false, x), (true, x), hgx, ⟨rfl, rfl, rfl⟩, rfl⟩ rfl) ?_;refine dreg_end (by kernel_rfl) ?_;refine blk_n ?_
    refine seq_n ?_;refine wc_region ?_;refine rQ iD ?_;refine rC ?_;refine reg_nil ?_
    exact loop_n (i + 1) [] hlt (by omega) (.of rfl rfl rfl rfl rfl ⟨⟨_, rfl, .refl _⟩, rfl, ⟨_, rfl, .refl _⟩, rfl, ⟨_, rfl, .refl _⟩, rfl, trivial⟩ ⟨⟨rfl, rfl, _, rfl, .refl _⟩, ⟨rfl, rfl, _, rfl, RowLe.of_eq (congrArg (Row.ds 77 1 false enc2) hset)⟩, trivial⟩)
   ·have he : i = l.length + 1 := by have := of_decide_eq_false h3; omega
    subst he
    have hml : l.length + 1 = (mkL (l ++ [p]) (l.length + 1)).length := by rw [mkL_len, hLl]
    have hmk : mkL (l ++ [p]) (l.length + 1) = (l ++ [p]).map (fun p => (true, p)) := by rw [mkL, ← hLl, List.take_length, List.drop_length]; simp
    refine wc_exit ?_;refine seq_x ?_;refine loop_x ?_;refine blk_x ?_;refine seq_n ?_;refine sR ?_;refine rQ iM ?_;refine reg_freeze (env' := [(53, _), (2, _)]) (h' := [(65, some _)]) 68 _ rfl ⟨⟨_, rfl, Frz.le (y := .d (.arr 1 encXP (l ++ [p]))) (Frz.own hml) rfl (fun _ => rfl) (fun _ _ => trivial) (arr_map (enc' := encXP) (xs := l ++ [p]) (g := fun p => (true, p)) hmk (fun _ => rfl))⟩, ⟨_, rfl, .refl _⟩, trivial⟩ ⟨⟨rfl, _, rfl, .refl _⟩, trivial⟩ ?_
    refine rQ (call_r hcl rfl rfl (arg_e arg_nil) (.inl rfl) (fun _ => rfl)) ?_;refine rQ (call_r hcp rfl rfl (arg_e arg_nil) (.inl rfl) (fun _ => rfl)) ?_;refine rW ?_
    iterate 2 refine rC ?_
    refine nS ?_;refine wc_ret ?_
    exact ⟨trivial, _, rfl, [], lf⟩
 have hs1 : (!decide (s = [])) = true := by rw [dF hs]; rfl
 cases hcut : cutL s 10 with
 | none =>
  have hR : parseP s0 [] 1 = ([], n, 5) := by rw [← hp, parseP_none _ _ hs hcut]
  have hc := cut_is (l := s) (c := 10) (by omega)
  rw [show cutA s 10 = (s, [], false) by simp only [cutA, hcut]] at hc
  rw [hR]
  cases q with
  | none =>
   refine wc_of ?_;refine qR ?_;refine rC ?_;refine rQ (neq_s (a := s) (b := []) tab_ok rfl rfl rfl) ?_;refine nS ?_;refine wT ?_;refine kS ?_;refine wc_seq ?_;refine wc_block ?_
   refine sR ?_;refine rC ?_;refine rQ (call_r hc rfl rfl (arg_e (arg_e arg_nil)) (.inl rfl) (fun _ => rfl)) ?_;iterate 7 refine rC ?_
   refine nQ ?_;refine sR ?_;iterate 2 refine rC ?_
   refine nS ?_;refine wV ?_;refine sR ?_;refine rC ?_;refine rW ?_;iterate 2 refine rC ?_
   refine nS ?_;refine wc_ret ?_;refine seq_r ?_;refine blk_r ?_;refine seq_r ?_;refine loop_r ?_;refine blk_r ?_;refine seq_r ?_
   exact ⟨trivial, _, rfl, [], .of rfl rfl rfl rfl rfl ⟨⟨_, rfl, AVLe.tup1 (nil_arx _ _) rfl⟩, rfl, trivial⟩ trivial⟩
  | some lp =>
   obtain ⟨l, p⟩ := lp
   refine wc_of ?_;refine qR ?_;refine rC ?_;refine rQ (neq_s (a := s) (b := []) tab_ok rfl rfl rfl) ?_;refine nS ?_;refine wT ?_;refine kS ?_;refine wc_seq ?_;refine wc_block ?_
   refine sR ?_;refine rC ?_;refine rQ (call_r hc rfl rfl (arg_e (arg_e arg_nil)) (.inl rfl) (fun _ => rfl)) ?_;iterate 7 refine rC ?_
   refine nQ ?_;refine sR ?_;iterate 2 refine rC ?_
   refine nS ?_;refine wV ?_;refine sR ?_;refine rC ?_;refine rW ?_;iterate 2 refine rC ?_
   refine nS ?_;refine wc_ret ?_;refine seq_r ?_;refine blk_r ?_;refine seq_r ?_;refine loop_r ?_;refine blk_r ?_;refine seq_r ?_
   exact ⟨trivial, _, rfl, [], .of rfl rfl rfl rfl rfl ⟨⟨_, rfl, AVLe.tup1 (nil_arx _ _) rfl⟩, rfl, trivial⟩ trivial⟩
 | some tr =>
  obtain ⟨tx, rest⟩ := tr
  have hlen := cut_len hcut
  have hc := cut_is (l := s) (c := 10) (by omega)
  rw [show cutA s 10 = (tx, rest, true) by simp only [cutA, hcut]] at hc
  have hP := parseP_some (toL q) n hs hcut
  rw [hp] at hP
  cases q with
  | none =>
   by_cases ht : tx = sClient
   ·have hadd0 := add_client0 tx ht
    have hA : addP (toL none) tx = ([[]], 0) := by simp [addP, ht, toL]
    have hR : parseP s0 [] 1 = parseP rest (toL (some ([], []))) (n + 1) := by rw [hP, hA]; rfl
    refine wc_of ?_;refine qR ?_;refine rC ?_;refine rQ (neq_s (a := s) (b := []) tab_ok rfl rfl rfl) ?_;refine nS ?_;refine wT ?_;refine kS ?_;refine wc_seq ?_;refine wc_block ?_
    refine sR ?_;refine rC ?_;refine rQ (call_r hc rfl rfl (arg_e (arg_e arg_nil)) (.inl rfl) (fun _ => rfl)) ?_;iterate 7 refine rC ?_
    refine nQ ?_;refine sR ?_;iterate 2 refine rC ?_
    refine nS ?_;refine wG ?_;refine kS ?_;refine qR ?_;iterate 2 refine rC ?_
    refine reg_do rfl (call_h [(0, some 65), (1, some 66), (2, some 67), (3, some 68)] hadd0 rfl rfl rfl (arg_e (arg_ptr rfl rfl (arg_ptr rfl rfl arg_nil))) ⟨⟨rfl, rfl, _, _, rfl, rfl, .refl _⟩, ⟨rfl, rfl, _, _, rfl, rfl, .refl _⟩, ⟨rfl, rfl, _, _, rfl, rfl, .refl _⟩, ⟨rfl, rfl, _, _, rfl, rfl, .refl _⟩, trivial⟩ rfl rfl (.inl rfl) rfl rfl) rfl rfl ?_
    refine rC ?_;refine nR ?_;iterate 2 refine rC ?_
    refine nS ?_;refine wG ?_;refine kS ?_;refine wc_region ?_;iterate 2 refine rC ?_
    refine reg_nil ?_;refine blk_n ?_;refine seq_n ?_;refine wc_region ?_;refine rC ?_;refine rQ iD ?_;refine rC ?_;refine reg_nil ?_
    exact loop_n (some ([], []), rest, n + 1) [(68, some 192), (69, some 193)] ⟨by rw [← hR], add_chk hc0 hA, add_ok hok hA, by omega, by omega⟩ (by show rest.length < s.length; omega) (.of rfl rfl rfl rfl rfl ⟨⟨_, rfl, .refl _⟩, rfl, ⟨_, rfl, .refl _⟩, rfl, ⟨_, rfl, .refl _⟩, rfl, ⟨_, rfl, .refl _⟩, rfl, trivial⟩ ⟨⟨rfl, rfl, _, rfl, .refl _⟩, ⟨rfl, rfl, _, rfl, .refl _⟩, ⟨rfl, rfl, _, rfl, .refl _⟩, ⟨rfl, chM_lt rfl _, _, rfl, leaf_ren rfl rfl rfl⟩, ⟨rfl, rfl, _, rfl, .refl _⟩, trivial⟩)
   ·obtain ⟨h5, hadd0⟩ := add_none ht (by omega)
    have hR : parseP s0 [] 1 = ([], n, 5) := by
     rw [hP, show toL none = [] from rfl, h5]
     rfl
    rw [hR]
    refine wc_of ?_;refine qR ?_;refine rC ?_;refine rQ (neq_s (a := s) (b := []) tab_ok rfl rfl rfl) ?_;refine nS ?_;refine wT ?_;refine kS ?_;refine wc_seq ?_;refine wc_block ?_
    refine sR ?_;refine rC ?_;refine rQ (call_r hc rfl rfl (arg_e (arg_e arg_nil)) (.inl rfl) (fun _ => rfl)) ?_;iterate 7 refine rC ?_
    refine nQ ?_;refine sR ?_;iterate 2 refine rC ?_
    refine nS ?_;refine wG ?_;refine kS ?_;refine qR ?_;iterate 2 refine rC ?_
    refine reg_do rfl (call_h [(0, some 65), (1, some 66), (2, some 67), (3, some 68)] hadd0 rfl rfl rfl (arg_e (arg_ptr rfl rfl (arg_ptr rfl rfl arg_nil))) ⟨⟨rfl, rfl, _, _, rfl, rfl, .refl _⟩, ⟨rfl, rfl, _, _, rfl, rfl, .refl _⟩, ⟨rfl, rfl, _, _, rfl, rfl, .refl _⟩, ⟨rfl, rfl, _, _, rfl, rfl, .refl _⟩, trivial⟩ rfl rfl (.inl rfl) rfl rfl) rfl rfl ?_
    refine rC ?_;refine nR ?_;iterate 2 refine rC ?_
    refine nS ?_;refine wV ?_;refine sR ?_;iterate 2 refine rC ?_
    refine rW ?_;iterate 2 refine rC ?_
    refine nS ?_;refine wc_ret ?_;refine seq_r ?_;refine blk_r ?_;refine seq_r ?_;refine loop_r ?_;refine blk_r ?_;refine seq_r ?_
    exact ⟨trivial, _, rfl, [], .of rfl rfl rfl rfl rfl ⟨⟨_, rfl, AVLe.tup1 (nil_arx _ _) rfl⟩, rfl, trivial⟩ trivial⟩
  | some lp =>
   obtain ⟨l, p⟩ := lp
   obtain ⟨c1, c2⟩ := chkP_ok.1 hc0
   have hl8 : l.length + 1 ≤ 8 := by simpa [toL] using c1
   have hp64 : p.length ≤ 64 := by
    have := c2 p (by simp [toL])
    simp only [badP, Bool.or_eq_false_iff, decide_eq_false_iff_not] at this
    omega
   by_cases ht : tx = sClient
   ·have hadd1 := add_client1 tx ht l p (by omega)
    by_cases hg : 8 < l.length + 2
    ·rw [if_pos hg] at hadd1
     have hR : parseP s0 [] 1 = ([], n, 3) := by
      have h3 : (addP (toL (some (l, p))) tx).2 = 3 := by
       rw [show toL (some (l, p)) = l ++ [p] from rfl, addP, if_pos ht, if_pos (by simp; omega)]
      rw [hP, h3]
      rfl
     rw [hR]
     refine wc_of ?_;refine qR ?_;refine rC ?_;refine rQ (neq_s (a := s) (b := []) tab_ok rfl rfl rfl) ?_;refine nS ?_;refine wT ?_;refine kS ?_;refine wc_seq ?_;refine wc_block ?_
     refine sR ?_;refine rC ?_;refine rQ (call_r hc rfl rfl (arg_e (arg_e arg_nil)) (.inl rfl) (fun _ => rfl)) ?_;iterate 7 refine rC ?_
     refine nQ ?_;refine sR ?_;iterate 2 refine rC ?_
     refine nS ?_;refine wG ?_;refine kS ?_;refine qR ?_;iterate 2 refine rC ?_
     refine reg_do rfl (call_h [(0, some 65), (1, some 66), (2, some 67), (3, some 68), (4, some 69)] hadd1 rfl rfl rfl (arg_e (arg_ptr rfl rfl (arg_ptr rfl rfl arg_nil))) ⟨⟨rfl, rfl, _, _, rfl, rfl, .refl _⟩, ⟨rfl, rfl, _, _, rfl, rfl, .refl _⟩, ⟨rfl, rfl, _, _, rfl, rfl, .refl _⟩, ⟨rfl, chM_lt rfl _, _, _, rfl, rfl, leaf_keep rfl rfl⟩, ⟨rfl, rfl, _, _, rfl, rfl, .refl _⟩, trivial⟩ rfl rfl (.inl rfl) rfl rfl) rfl rfl ?_
     refine rC ?_;refine nR ?_;iterate 2 refine rC ?_
     refine nS ?_;refine wV ?_;refine sR ?_;iterate 2 refine rC ?_
     refine rW ?_;iterate 2 refine rC ?_
     refine nS ?_;refine wc_ret ?_;refine seq_r ?_;refine blk_r ?_;refine seq_r ?_;refine loop_r ?_;refine blk_r ?_;refine seq_r ?_
     exact ⟨trivial, _, rfl, [], .of rfl rfl rfl rfl rfl ⟨⟨_, rfl, AVLe.tup1 (nil_arx _ _) rfl⟩, rfl, trivial⟩ trivial⟩
    ·rw [if_neg hg] at hadd1
     have hA : addP (toL (some (l, p))) tx = (toL (some (l ++ [p], [])), 0) := by
      rw [show toL (some (l, p)) = l ++ [p] from rfl, addP, if_pos ht, if_neg (by simp; omega)]
      rfl
     have hR : parseP s0 [] 1 = parseP rest (toL (some (l ++ [p], []))) (n + 1) := by rw [hP, hA]; rfl
     refine wc_of ?_;refine qR ?_;refine rC ?_;refine rQ (neq_s (a := s) (b := []) tab_ok rfl rfl rfl) ?_;refine nS ?_;refine wT ?_;refine kS ?_;refine wc_seq ?_;refine wc_block ?_
     refine sR ?_;refine rC ?_;refine rQ (call_r hc rfl rfl (arg_e (arg_e arg_nil)) (.inl rfl) (fun _ => rfl)) ?_;iterate 7 refine rC ?_
     refine nQ ?_;refine sR ?_;iterate 2 refine rC ?_
     refine nS ?_;refine wG ?_;refine kS ?_;refine qR ?_;iterate 2 refine rC ?_
     refine reg_do rfl (call_h [(0, some 65), (1, some 66), (2, some 67), (3, some 68), (4, some 69)] hadd1 rfl rfl rfl (arg_e (arg_ptr rfl rfl (arg_ptr rfl rfl arg_nil))) ⟨⟨rfl, rfl, _, _, rfl, rfl, .refl _⟩, ⟨rfl, rfl, _, _, rfl, rfl, .refl _⟩, ⟨rfl, rfl, _, _, rfl, rfl, .refl _⟩, ⟨rfl, chM_lt rfl _, _, _, rfl, rfl, leaf_keep rfl rfl⟩, ⟨rfl, rfl, _, _, rfl, rfl, .refl _⟩, trivial⟩ rfl rfl (.inl rfl) rfl rfl) rfl rfl ?_
     refine rC ?_;refine nR ?_;iterate 2 refine rC ?_
     refine nS ?_;refine wG ?_;refine kS ?_;refine wc_region ?_;iterate 2 refine rC ?_
     refine reg_nil ?_;refine blk_n ?_;refine seq_n ?_;refine wc_region ?_;refine rC ?_;refine rQ iD ?_;refine rC ?_;refine reg_nil ?_
     exact loop_n (some (l ++ [p], []), rest, n + 1) [(68, some 192), (69, some 193)] ⟨by rw [← hR], add_chk hc0 hA, add_ok hok hA, by omega, by omega⟩ (by show rest.length < s.length; omega) (.of rfl rfl rfl rfl rfl ⟨⟨_, rfl, .refl _⟩, rfl, ⟨_, rfl, .refl _⟩, rfl, ⟨_, rfl, .refl _⟩, rfl, ⟨_, rfl, .refl _⟩, rfl, trivial⟩ ⟨⟨rfl, rfl, _, rfl, .refl _⟩, ⟨rfl, rfl, _, rfl, .refl _⟩, ⟨rfl, rfl, _, rfl, .refl _⟩, ⟨rfl, chM_lt rfl _, _, rfl, leaf_ren rfl rfl rfl⟩, ⟨rfl, rfl, _, rfl, .refl _⟩, trivial⟩)
   ·rcases add_some ht (by omega) l p (by omega) (by omega) with ⟨e, he, h5, hadd1 | ⟨o, hadd1⟩⟩ | ⟨o, hA, hadd1⟩
    ·have hne : (!decide (e = 0)) = true := by rw [dF he]; rfl
     have hR : parseP s0 [] 1 = ([], n, e) := by
      rw [hP, show toL (some (l, p)) = l ++ [p] from rfl, h5, if_neg he]
     rw [hR]
     refine wc_of ?_;refine qR ?_;refine rC ?_;refine rQ (neq_s (a := s) (b := []) tab_ok rfl rfl rfl) ?_;refine nS ?_;refine wT ?_;refine kS ?_;refine wc_seq ?_;refine wc_block ?_
     refine sR ?_;refine rC ?_;refine rQ (call_r hc rfl rfl (arg_e (arg_e arg_nil)) (.inl rfl) (fun _ => rfl)) ?_;iterate 7 refine rC ?_
     refine nQ ?_;refine sR ?_;iterate 2 refine rC ?_
     refine nS ?_;refine wG ?_;refine kS ?_;refine qR ?_;iterate 2 refine rC ?_
     refine reg_do rfl (call_h [(0, some 65), (1, some 66), (2, some 67), (3, some 68), (4, some 69)] hadd1 rfl rfl rfl (arg_e (arg_ptr rfl rfl (arg_ptr rfl rfl arg_nil))) ⟨⟨rfl, rfl, _, _, rfl, rfl, .refl _⟩, ⟨rfl, rfl, _, _, rfl, rfl, .refl _⟩, ⟨rfl, rfl, _, _, rfl, rfl, .refl _⟩, ⟨rfl, chM_lt rfl _, _, _, rfl, rfl, leaf_keep rfl rfl⟩, ⟨rfl, rfl, _, _, rfl, rfl, .refl _⟩, trivial⟩ rfl rfl (.inl rfl) rfl rfl) rfl rfl ?_
     refine rC ?_;refine nR ?_;iterate 2 refine rC ?_
     refine nS ?_;refine wT ?_;refine sR ?_;iterate 2 refine rC ?_
     refine rW ?_;iterate 2 refine rC ?_
     refine nS ?_;refine wc_ret ?_;refine seq_r ?_;refine blk_r ?_;refine seq_r ?_;refine loop_r ?_;refine blk_r ?_;refine seq_r ?_
     exact ⟨trivial, _, rfl, [], .of rfl rfl rfl rfl rfl ⟨⟨_, rfl, AVLe.tup1 (nil_arx _ _) rfl⟩, rfl, trivial⟩ trivial⟩
    ·have hne : (!decide (e = 0)) = true := by rw [dF he]; rfl
     have hR : parseP s0 [] 1 = ([], n, e) := by
      rw [hP, show toL (some (l, p)) = l ++ [p] from rfl, h5, if_neg he]
     rw [hR]
     refine wc_of ?_;refine qR ?_;refine rC ?_;refine rQ (neq_s (a := s) (b := []) tab_ok rfl rfl rfl) ?_;refine nS ?_;refine wT ?_;refine kS ?_;refine wc_seq ?_;refine wc_block ?_
     refine sR ?_;refine rC ?_;refine rQ (call_r hc rfl rfl (arg_e (arg_e arg_nil)) (.inl rfl) (fun _ => rfl)) ?_;iterate 7 refine rC ?_
     refine nQ ?_;refine sR ?_;iterate 2 refine rC ?_
     refine nS ?_;refine wG ?_;refine kS ?_;refine qR ?_;iterate 2 refine rC ?_
     refine reg_do rfl (call_h [(0, some 65), (1, some 66), (2, some 67), (3, some 68), (4, some 69)] hadd1 rfl rfl rfl (arg_e (arg_ptr rfl rfl (arg_ptr rfl rfl arg_nil))) ⟨⟨rfl, rfl, _, _, rfl, rfl, .refl _⟩, ⟨rfl, rfl, _, _, rfl, rfl, .refl _⟩, ⟨rfl, rfl, _, _, rfl, rfl, .refl _⟩, ⟨rfl, chM_lt rfl _, _, _, rfl, rfl, leaf_keep rfl rfl⟩, ⟨rfl, rfl, _, _, rfl, rfl, .refl _⟩, trivial⟩ rfl rfl (.inl rfl) rfl rfl) rfl rfl ?_
     refine rC ?_;refine nR ?_;iterate 2 refine rC ?_
     refine nS ?_;refine wT ?_;refine sR ?_;iterate 2 refine rC ?_
     refine rW ?_;iterate 2 refine rC ?_
     refine nS ?_;refine wc_ret ?_;refine seq_r ?_;refine blk_r ?_;refine seq_r ?_;refine loop_r ?_;refine blk_r ?_;refine seq_r ?_
     exact ⟨trivial, _, rfl, [], .of rfl rfl rfl rfl rfl ⟨⟨_, rfl, AVLe.tup1 (nil_arx _ _) rfl⟩, rfl, trivial⟩ trivial⟩
    ·replace hA : addP (toL (some (l, p))) tx = (toL (some (l, p ++ [o])), 0) := hA
     have hR : parseP s0 [] 1 = parseP rest (toL (some (l, p ++ [o]))) (n + 1) := by rw [hP, hA]; rfl
     refine wc_of ?_;refine qR ?_;refine rC ?_;refine rQ (neq_s (a := s) (b := []) tab_ok rfl rfl rfl) ?_;refine nS ?_;refine wT ?_;refine kS ?_;refine wc_seq ?_;refine wc_block ?_
     refine sR ?_;refine rC ?_;refine rQ (call_r hc rfl rfl (arg_e (arg_e arg_nil)) (.inl rfl) (fun _ => rfl)) ?_;iterate 7 refine rC ?_
     refine nQ ?_;refine sR ?_;iterate 2 refine rC ?_
     refine nS ?_;refine wG ?_;refine kS ?_;refine qR ?_;iterate 2 refine rC ?_
     refine reg_do rfl (call_h [(0, some 65), (1, some 66), (2, some 67), (3, some 68), (4, some 69)] hadd1 rfl rfl rfl (arg_e (arg_ptr rfl rfl (arg_ptr rfl rfl arg_nil))) ⟨⟨rfl, rfl, _, _, rfl, rfl, .refl _⟩, ⟨rfl, rfl, _, _, rfl, rfl, .refl _⟩, ⟨rfl, rfl, _, _, rfl, rfl, .refl _⟩, ⟨rfl, chM_lt rfl _, _, _, rfl, rfl, leaf_keep rfl rfl⟩, ⟨rfl, rfl, _, _, rfl, rfl, .refl _⟩, trivial⟩ rfl rfl (.inl rfl) rfl rfl) rfl rfl ?_
     refine rC ?_;refine nR ?_;iterate 2 refine rC ?_
     refine nS ?_;refine wG ?_;refine kS ?_;refine wc_region ?_;iterate 2 refine rC ?_
     refine reg_nil ?_;refine blk_n ?_;refine seq_n ?_;refine wc_region ?_;refine rC ?_;refine rQ iD ?_;refine rC ?_;refine reg_nil ?_
     exact loop_n (some (l, p ++ [o]), rest, n + 1) [(69, some 193)] ⟨by rw [← hR], add_chk hc0 hA, add_ok hok hA, by omega, by omega⟩ (by show rest.length < s.length; omega) (.of rfl rfl rfl rfl rfl ⟨⟨_, rfl, .refl _⟩, rfl, ⟨_, rfl, .refl _⟩, rfl, ⟨_, rfl, .refl _⟩, rfl, ⟨_, rfl, .refl _⟩, rfl, trivial⟩ ⟨⟨rfl, rfl, _, rfl, .refl _⟩, ⟨rfl, rfl, _, rfl, .refl _⟩, ⟨rfl, rfl, _, rfl, .refl _⟩, ⟨rfl, chM_lt rfl _, _, rfl, leaf_ren rfl rfl rfl⟩, ⟨rfl, rfl, _, rfl, .refl _⟩, trivial⟩)
theorem parse_is (s : List UInt8) (hl : s.length ≤ 1048576) : FnIs Tryz.prog 47 [.d (strD s)] [] (parR (parseP s [] 1).1 (parseP s [] 1).2.1 (parseP s [] 1).2.2) [] := parse_main s hl
def outO (o : POp) (b : Int) : Bool := decide (o.index < 0) || decide (b ≤ o.index)
def badO (o : POp) (b : Int) : Bool := if o.kind = 1 then outO o b else if o.kind = 2 then outO o b || !decide (o.data.length = 32) else !decide (o.kind = 3)
def preO (l : List (List POp)) (i : Nat) (p : List POp) (j : Nat) : List POp := (l.take i).flatten ++ p.take j
def cK (k : Int) (l : List POp) : Nat := l.countP fun o => decide (o.kind = k)
def cO (l : List POp) : Nat := l.countP fun o => !decide (o.kind = 1) && !decide (o.kind = 2) && !decide (o.kind = 3)
theorem op_dec (x y : POp) : decide (x = y) = (decide (x.kind = y.kind) && decide (x.index = y.index) && decide (x.data = y.data)) := by
 obtain ⟨a, b, c⟩ := x
 obtain ⟨d, e, f⟩ := y
 by_cases h1 : a = d <;> by_cases h2 : b = e <;> by_cases h3 : c = f <;> simp [h1, h2, h3]
abbrev sRow : List (Nat × Row) := [(0, .box 165 (fnA 100))]
theorem str_dec (a b : List UInt8) : decide (strOf (byI a) = strOf (byI b)) = decide (a = b) := by rw [strOf_byI, strOf_byI, mkS_dec]
theorem requal_w (x y : POp) (c1 c2 c3 : Bool) (h1 : (!decide (x.kind = y.kind)) = !c1) (h2 : (!decide (x.index = y.index)) = !c2) (h3 : (!decide (strOf (byI x.data) = strOf (byI y.data))) = !c3) : FnIs Tryz.prog 67 [.d (encPOp x), .d (encPOp y)] [] (.d (i6 (if (c1 && c2 && c3) = true then 1 else 0))) [] := by
 refine fnIs_of tab_ok Tryz.func67 rfl rfl rfl ?_
 cases c1 <;> cases c2 <;> cases c3
 ·refine sR ?_;iterate 2 refine rN ?_
  refine rC ?_;refine nQ ?_;refine sR ?_;refine rC ?_;refine rQ iB ?_;refine rC ?_;refine rQ iB ?_;iterate 2 refine rC ?_
  iterate 5 refine rS ?_
  refine rQ iT ?_;refine rC ?_;iterate 7 refine rT ?_
  refine rQ iU ?_;refine nS ?_;refine wV ?_;refine sR ?_;refine rC ?_;refine nS ?_;refine wc_ret ?_;refine seq_r ?_
  exact ⟨trivial, [], lf⟩
 ·refine sR ?_;iterate 2 refine rN ?_
  refine rC ?_;refine nQ ?_;refine sR ?_;refine rC ?_;refine rQ iB ?_;refine rC ?_;refine rQ iB ?_;iterate 2 refine rC ?_
  iterate 5 refine rS ?_
  refine rQ iT ?_;refine rC ?_;iterate 7 refine rT ?_
  refine rQ iU ?_;refine nS ?_;refine wV ?_;refine sR ?_;refine rC ?_;refine nS ?_;refine wc_ret ?_;refine seq_r ?_
  exact ⟨trivial, [], lf⟩
 ·refine sR ?_;iterate 2 refine rN ?_
  refine rC ?_;refine nQ ?_;refine sR ?_;refine rC ?_;refine rQ iB ?_;refine rC ?_;refine rQ iB ?_;iterate 2 refine rC ?_
  iterate 5 refine rS ?_
  refine rQ iT ?_;refine rC ?_;iterate 7 refine rT ?_
  refine rQ iU ?_;refine nS ?_;refine wV ?_;refine sR ?_;refine rC ?_;refine nS ?_;refine wc_ret ?_;refine seq_r ?_
  exact ⟨trivial, [], lf⟩
 ·refine sR ?_;iterate 2 refine rN ?_
  refine rC ?_;refine nQ ?_;refine sR ?_;refine rC ?_;refine rQ iB ?_;refine rC ?_;refine rQ iB ?_;iterate 2 refine rC ?_
  iterate 5 refine rS ?_
  refine rQ iT ?_;refine rC ?_;iterate 7 refine rT ?_
  refine rQ iU ?_;refine nS ?_;refine wV ?_;refine sR ?_;refine rC ?_;refine nS ?_;refine wc_ret ?_;refine seq_r ?_
  exact ⟨trivial, [], lf⟩
 ·refine sR ?_;iterate 2 refine rN ?_
  refine rC ?_;refine nQ ?_;refine sR ?_;refine rC ?_;refine rQ iB ?_;refine rC ?_;refine rQ iB ?_;iterate 2 refine rC ?_
  refine rO ?_;refine rC ?_;refine rO ?_;refine rQ iB ?_;refine rO ?_;refine rC ?_;refine rO ?_;refine rQ iB ?_;refine rO ?_;refine rC ?_;refine rQ iF ?_;refine rC ?_
  iterate 7 refine rS ?_
  refine rQ iT ?_;refine nS ?_;refine wV ?_;refine sR ?_;refine rC ?_;refine nS ?_;refine wc_ret ?_;refine seq_r ?_
  exact ⟨trivial, [], lf⟩
 ·refine sR ?_;iterate 2 refine rN ?_
  refine rC ?_;refine nQ ?_;refine sR ?_;refine rC ?_;refine rQ iB ?_;refine rC ?_;refine rQ iB ?_;iterate 2 refine rC ?_
  refine rO ?_;refine rC ?_;refine rO ?_;refine rQ iB ?_;refine rO ?_;refine rC ?_;refine rO ?_;refine rQ iB ?_;refine rO ?_;refine rC ?_;refine rQ iF ?_;refine rC ?_
  iterate 7 refine rS ?_
  refine rQ iT ?_;refine nS ?_;refine wV ?_;refine sR ?_;refine rC ?_;refine nS ?_;refine wc_ret ?_;refine seq_r ?_
  exact ⟨trivial, [], lf⟩
 ·refine sR ?_;iterate 2 refine rN ?_
  refine rC ?_;refine nQ ?_;refine sR ?_;refine rC ?_;refine rQ iB ?_;refine rC ?_;refine rQ iB ?_;iterate 2 refine rC ?_
  refine rO ?_;refine rC ?_;refine rO ?_;refine rQ iB ?_;refine rO ?_;refine rC ?_;refine rO ?_;refine rQ iB ?_;refine rO ?_;refine rC ?_;refine rQ iF ?_;refine rC ?_
  refine rO ?_;refine rC ?_;refine rO ?_;refine rQ iB ?_;refine rO ?_;refine rQ (conv_bytes tab_ok rfl rfl rfl rfl) ?_;refine rO ?_;refine rC ?_;refine rO ?_;refine rQ iB ?_
  refine rO ?_;refine rQ (conv_bytes tab_ok rfl rfl rfl rfl) ?_;refine rO ?_;refine rQ (neq_str tab_ok rfl rfl rfl) ?_;refine rQ iF ?_;refine nS ?_;refine wT ?_;refine sR ?_
  refine rC ?_;refine nS ?_;refine wc_ret ?_;refine seq_r ?_
  exact ⟨trivial, [], lf⟩
 ·refine sR ?_;iterate 2 refine rN ?_
  refine rC ?_;refine nQ ?_;refine sR ?_;refine rC ?_;refine rQ iB ?_;refine rC ?_;refine rQ iB ?_;iterate 2 refine rC ?_
  refine rO ?_;refine rC ?_;refine rO ?_;refine rQ iB ?_;refine rO ?_;refine rC ?_;refine rO ?_;refine rQ iB ?_;refine rO ?_;refine rC ?_;refine rQ iF ?_;refine rC ?_
  refine rO ?_;refine rC ?_;refine rO ?_;refine rQ iB ?_;refine rO ?_;refine rQ (conv_bytes tab_ok rfl rfl rfl rfl) ?_;refine rO ?_;refine rC ?_;refine rO ?_;refine rQ iB ?_
  refine rO ?_;refine rQ (conv_bytes tab_ok rfl rfl rfl rfl) ?_;refine rO ?_;refine rQ (neq_str tab_ok rfl rfl rfl) ?_;refine rQ iF ?_;refine nS ?_;refine wF ?_;refine kS ?_
  refine sR ?_;refine rC ?_;refine nS ?_;refine wc_ret ?_
  exact ⟨trivial, [], lf⟩
theorem requal_is (x y : POp) : FnIs Tryz.prog 67 [.d (encPOp x), .d (encPOp y)] [] (.d (i6 (if x = y then 1 else 0))) [] := by
 have := requal_w x y (decide (x.kind = y.kind)) (decide (x.index = y.index)) (decide (x.data = y.data)) rfl rfl (by rw [str_dec])
 rw [← op_dec] at this
 simpa using this
def SmallL (l : List (List POp)) : Prop := l.length ≤ 12 ∧ l.flatten.length ≤ 200 ∧ ∀ p ∈ l, p.length ≤ 66 ∧ ∀ o ∈ p, o.data.length ≤ 70
def smallB (l : List (List POp)) : Bool := decide (l.length ≤ 12) && decide (l.flatten.length ≤ 200) && l.all fun p => decide (p.length ≤ 66) && p.all fun o => decide (o.data.length ≤ 70)
abbrev r01 (b : Bool) : AV := .d (i6 (if b = true then 1 else 0))
abbrev k4 (l : List POp) : D := .cons (i6 (cK 1 l)) (.cons (i6 (cK 2 l)) (.cons (i6 (cK 3 l)) (.cons (i6 (cO l)) .nil)))
def wStep (n : Int) (s : List Int × Bool) (x : Int) : List Int × Bool :=
 let t := if s.2 = false ∧ n ≤ x then (s.1 ++ [n], true) else s
 (if x = n then t.1 else t.1 ++ [x], t.2)
def wPre (n : Int) (l : List Int) : List Int × Bool := l.foldl (wStep n) ([], false)
def withL (l : List Int) (n : Int) : List Int := if (wPre n l).2 = true then (wPre n l).1 else (wPre n l).1 ++ [n]
def bi (b : Bool) : Int := if b then 1 else 0
abbrev rowI (l : List Int) : Row := .ds 3 1 false i6 l
end Go.Proofs.YtmojbghcngdkpaaGreatDoor
namespace Go.Proofs.YtmojbghcngdkpaaGreatDoor
open Go.Eng Go.Plain
def uB : Bool → Nat
 | true => 0
 | false => 1
def touB (b : Int) (o : POp) : Bool := !decide (o.kind = 3) && !badO o b
def touS (b : Int) (acc : List Int) (o : POp) : List Int := if touB b o = true then withL acc o.index else acc
def touL (b : Int) (l : List POp) : List Int := l.foldl (touS b) []
end Go.Proofs.YtmojbghcngdkpaaGreatDoor
namespace Go.Proofs.YtmojbghcngdkpaaGreatDoor
open Go.Eng Go.Plain
set_option maxHeartbeats 4000000
set_option maxRecDepth 20000
attribute [local irreducible] WC RegS RegD SeqQ BlkQ ScoQ RegK CutK Sat SatN FnIs LoopQ StepIs OpIs
end Go.Proofs.YtmojbghcngdkpaaGreatDoor
namespace Go.Eng
open Go.RowKit
end Go.Eng
namespace Go.Proofs.YtmojbghcngdkpaaGreatDoor
open Go.Eng Go.Plain
set_option maxHeartbeats 4000000
set_option maxRecDepth 20000
attribute [local irreducible] WC RegS RegD SeqQ BlkQ ScoQ RegK CutK Sat SatN FnIs LoopQ StepIs OpIs
def decD : List UInt8 := [48, 49, 50, 51, 52, 53, 54, 55, 56, 57]
theorem decD_cut {d : Nat} (h : d < 10) : (decD.drop d).take (d + 1 - d) = [UInt8.ofNat (48 + d)] := by
 have : ∀ d, d < 10 → (decD.drop d).take (d + 1 - d) = [UInt8.ofNat (48 + d)] := by decide
 exact this d h
theorem numN_is : ∀ (u : Nat), u ≤ 9223372036854775807 → FnIs Tryz.prog 51 [.int .i64 u] [] (.d (strD (Lib.decDigits u))) [] := by
 intro u
 induction u using Nat.strongRecOn with
 | ind u ih =>
  intro hu
  have hmin : decide ((u : Int) = -9223372036854775808) = false := dF (by omega)
  have hneg : decide ((u : Int) < 0) = false := dF (by omega)
  have hw1 : IntKind.i64.wrap (((u % 10 : Nat) : Int) + 1) = ((u % 10 + 1 : Nat) : Int) := by rw [wrap_i64 (by omega) (by omega)]; rfl
  have hle : u % 10 + 1 ≤ decD.length := by show u % 10 + 1 ≤ 10; omega
  have hcut := decD_cut (d := u % 10) (by omega)
  refine fnIs_of tab_ok Tryz.func51 rfl rfl rfl ?_
  by_cases h9 : 9 < u
  ·have hd : decide (9 < (u : Int)) = true := dT (by omega)
   have hrec := ih (u / 10) (by omega) (by omega)
   have hw2 : IntKind.i64.wrap ((u / 10 : Nat) : Int) = ((u / 10 : Nat) : Int) := wrap_i64 (by omega) (by omega)
   have hlen : (Lib.decDigits (u / 10)).length + [UInt8.ofNat (48 + u % 10)].length ≤ 9223372036854775807 := by
    have := dec_len (u := u / 10) (by omega)
    simp; omega
   rw [show Lib.decDigits u = Lib.decDigits (u / 10) ++ [UInt8.ofNat (48 + u % 10)] by rw [Lib.decDigits, dif_neg (by omega)]]
   refine sR ?_;refine rC ?_;refine nQ ?_;refine sR ?_;iterate 2 refine rC ?_
   refine nS ?_;refine wG ?_;refine kS ?_;refine qR ?_;iterate 2 refine rC ?_
   refine nS ?_;refine wG ?_;refine kS ?_;refine sR ?_;refine rC ?_;refine rQ (rem_nat (a := u) (b := 10) tab_ok rfl rfl rfl (by decide)) ?_;refine rC ?_;refine rQ (rem_nat (a := u) (b := 10) tab_ok rfl rfl rfl (by decide)) ?_
   refine rQ (add_int (m := ((u % 10 + 1 : Nat) : Int)) tab_ok rfl rfl hw1) ?_;refine rQ (str_mid (l := decD) (lo := u % 10) (hi := u % 10 + 1) tab_ok rfl rfl rfl rfl hle (by omega) hcut) ?_
   refine rC ?_;refine nQ ?_;refine sR ?_;iterate 2 refine rC ?_
   refine nS ?_;refine wT ?_;refine wc_region ?_;refine rC ?_;refine rQ (quo_nat (a := u) (b := 10) tab_ok rfl rfl rfl (by decide) hw2) ?_;refine rQ (call_r hrec rfl rfl (arg_e arg_nil) (.inl rfl) (fun _ => rfl)) ?_
   refine rC ?_;refine rQ (add_str (a := Lib.decDigits (u / 10)) (b := [UInt8.ofNat (48 + u % 10)]) rfl rfl hlen rfl) ?_;refine rC ?_;refine nR ?_;iterate 2 refine rC ?_
   refine nS ?_;refine wc_ret ?_
   exact ⟨trivial, [], lf⟩
  ·have hd : decide (9 < (u : Int)) = false := dF (by omega)
   rw [show Lib.decDigits u = [UInt8.ofNat (48 + u % 10)] by rw [Lib.decDigits, dif_pos (by omega), Nat.mod_eq_of_lt (by omega)]]
   refine sR ?_;refine rC ?_;refine nQ ?_;refine sR ?_;iterate 2 refine rC ?_
   refine nS ?_;refine wG ?_;refine kS ?_;refine qR ?_;iterate 2 refine rC ?_
   refine nS ?_;refine wG ?_;refine kS ?_;refine sR ?_;refine rC ?_;refine rQ (rem_nat (a := u) (b := 10) tab_ok rfl rfl rfl (by decide)) ?_;refine rC ?_;refine rQ (rem_nat (a := u) (b := 10) tab_ok rfl rfl rfl (by decide)) ?_
   refine rQ (add_int (m := ((u % 10 + 1 : Nat) : Int)) tab_ok rfl rfl hw1) ?_;refine rQ (str_mid (l := decD) (lo := u % 10) (hi := u % 10 + 1) tab_ok rfl rfl rfl rfl hle (by omega) hcut) ?_
   refine rC ?_;refine nQ ?_;refine sR ?_;iterate 2 refine rC ?_
   refine nS ?_;refine wF ?_;refine kS ?_;refine sR ?_;iterate 2 refine rC ?_
   refine nS ?_;refine wc_ret ?_
   exact ⟨trivial, [], lf⟩
theorem number_is (n : Int) (h0 : -9223372036854775808 ≤ n) (h1 : n ≤ 9223372036854775807) : FnIs Tryz.prog 51 [.int .i64 n] [] (.d (strD (Lib.itoa n))) [] := by
 by_cases hn : n < 0
 ·by_cases hm : n = -9223372036854775808
  ·subst hm
   rw [show Lib.itoa (-9223372036854775808) = [45, 57, 50, 50, 51, 51, 55, 50, 48, 51, 54, 56, 53, 52, 55, 55, 53, 56, 48, 56] by decide +kernel]
   refine fnIs_of tab_ok Tryz.func51 rfl rfl rfl ?_;refine sR ?_;refine rC ?_;refine nQ ?_;refine sR ?_;iterate 2 refine rC ?_
   refine nS ?_;refine wV ?_;refine sR ?_;refine rC ?_;refine nS ?_;refine wc_ret ?_;refine seq_r ?_
   exact ⟨trivial, [], lf⟩
  ·have hmin : decide (n = -9223372036854775808) = false := dF hm
   have hneg : decide (n < 0) = true := dT hn
   have hrec := numN_is n.natAbs (by omega)
   have hlen : [(45 : UInt8)].length + (Lib.decDigits n.natAbs).length ≤ 9223372036854775807 := by
    have := dec_len (u := n.natAbs) (by omega)
    simp; omega
   have hwn : IntKind.i64.wrap (-n) = (n.natAbs : Int) := by rw [wrap_i64 (by omega) (by omega)]; omega
   rw [show Lib.itoa n = [45] ++ Lib.decDigits n.natAbs by rw [Lib.itoa, if_pos hn]; rfl]
   refine fnIs_of tab_ok Tryz.func51 rfl rfl rfl ?_;refine sR ?_;refine rC ?_;refine nQ ?_;refine sR ?_;iterate 2 refine rC ?_
   refine nS ?_;refine wF ?_;refine kS ?_;refine qR ?_;iterate 2 refine rC ?_
   refine nS ?_;refine wT ?_;refine sR ?_;refine rC ?_;refine rQ (step_C tab_ok (fun K hk => ⟨_, hwn, hk⟩)) ?_;refine rQ (call_r hrec rfl rfl (arg_e arg_nil) (.inl rfl) (fun _ => rfl)) ?_
   refine rQ (add_str (a := [45]) (b := Lib.decDigits n.natAbs) rfl rfl hlen rfl) ?_;refine rC ?_;refine nS ?_;refine wc_ret ?_;refine seq_r ?_
   exact ⟨trivial, [], lf⟩
 ·have := numN_is n.toNat (by omega)
  rw [show ((n.toNat : Nat) : Int) = n by omega] at this
  rwa [show Lib.itoa n = Lib.decDigits n.toNat by rw [Lib.itoa, if_neg hn]]
theorem hexD_cut {d : Nat} (h : d < 16) : (hexD.drop d).take (d + 1 - d) = [hexC d] := by
 have : ∀ d, d < 16 → (hexD.drop d).take (d + 1 - d) = [hexC d] := by decide
 exact this d h
theorem rhex_is (l : List UInt8) (hL : l.length ≤ 1000000000) : FnIs Tryz.prog 120 [.d (encB l)] [] (.d (strD (hexP l))) [] := by
 have hbl : (byI l).length = l.length := byI_len l
 refine fnIs_of tab_ok Tryz.func120 rfl rfl rfl ?_;refine sR ?_;refine rC ?_;refine nR ?_;refine rC ?_;refine nQ ?_;refine sR ?_;refine rC ?_;refine nS ?_;refine wc_block ?_
 refine wc_inv (fun i : Nat => ⟨[(4, .int .i64 i), (3, .d (strD ((l.take i).flatMap hexB))), (0, .d (encB l))], [], 72, Tryz.f120.ntmps, 64⟩) (fun i => i ≤ l.length) (fun i => l.length - i) 0 [] (Nat.zero_le _)
  (.of rfl rfl rfl rfl rfl ⟨⟨_, rfl, .refl _⟩, rfl, ⟨_, rfl, .refl _⟩, rfl, ⟨_, rfl, .refl _⟩, rfl, trivial⟩ trivial) ?_
 intro i hi
 refine wc_of ?_;refine qR ?_;iterate 2 refine rC ?_
 refine rQ iE ?_;refine rC ?_;refine nS ?_
 refine wc_cond rfl (fun h3 => ?_) (fun h3 => ?_)
 ·have hlt : i < l.length := by have := of_decide_eq_true h3; omega
  obtain ⟨b, hb⟩ : ∃ b, l[i]? = some b := ⟨_, List.getElem?_eq_getElem hlt⟩
  have hb' : (byI l)[((i : Int)).toNat]? = some (b.toNat : Int) := by rw [Int.toNat_natCast]; exact byI_get hb
  have hb8 : b.toNat < 256 := b.toNat_lt
  have hw1 : IntKind.u8.wrap (((b.toNat / 16 : Nat) : Int) + 1) = ((b.toNat / 16 + 1 : Nat) : Int) := wrap_u8n (a := b.toNat / 16 + 1) (by omega)
  have hw2 : IntKind.u8.wrap (((b.toNat % 16 : Nat) : Int) + 1) = ((b.toNat % 16 + 1 : Nat) : Int) := wrap_u8n (a := b.toNat % 16 + 1) (by omega)
  have hle1 : b.toNat / 16 + 1 ≤ hexD.length := by show _ ≤ 16; omega
  have hle2 : b.toNat % 16 + 1 ≤ hexD.length := by show _ ≤ 16; omega
  have hcut1 := hexD_cut (d := b.toNat / 16) (by omega)
  have hcut2 := hexD_cut (d := b.toNat % 16) (by omega)
  have hpl : ((l.take i).flatMap hexB).length = 2 * i := by rw [hexB_len, List.length_take, Nat.min_eq_left hi]
  have hlen1 : ((l.take i).flatMap hexB).length + [hexC (b.toNat / 16)].length ≤ 9223372036854775807 := by rw [hpl]; simp; omega
  have hlen2 : ((l.take i).flatMap hexB ++ [hexC (b.toNat / 16)]).length + [hexC (b.toNat % 16)].length ≤ 9223372036854775807 := by rw [List.length_append, hpl]; simp; omega
  have hgo := hex_take hb
  refine kS ?_;refine wc_seq ?_;refine wc_block ?_;refine wc_seq ?_;refine wc_draw (by kernel_rfl) ?_;refine dC [0] [] ?_;refine dC [4] [] ?_;refine dQ [13, 14] [] iA ?_
  refine dQ [15] [] iL ?_;refine dQ [16] [] (shr_nat (a := b.toNat) (s := 4) (m := b.toNat / 16) rfl rfl (by decide) rfl) ?_;refine dC [0] [] ?_;refine dC [4] [] ?_
  refine dQ [18, 19] [] iA ?_;refine dQ [20] [] iL ?_;refine dQ [21] [] (and_nat (a := b.toNat) (b := 15) (m := b.toNat % 16) rfl rfl rfl hb8 (by decide) (Nat.and_two_pow_sub_one_eq_mod b.toNat 4)) ?_
  refine dC [17] [] ?_;refine dC [22] [] ?_;refine dreg_end (by kernel_rfl) ?_;refine seq_n ?_;refine wc_draw (by kernel_rfl) ?_;refine dC [3] [] ?_;iterate 2 refine dC [5] [] ?_
  refine dQ [25] [] (add_int (m := ((b.toNat / 16 + 1 : Nat) : Int)) tab_ok rfl rfl hw1) ?_;refine dQ [24, 26] [] (str_mid (l := hexD) (lo := b.toNat / 16) (hi := b.toNat / 16 + 1) tab_ok rfl rfl rfl rfl hle1 (by omega) hcut1) ?_
  refine dQ [23, 27] [] (add_str (a := (l.take i).flatMap hexB) (b := [hexC (b.toNat / 16)]) rfl rfl hlen1 rfl) ?_;iterate 2 refine dC [6] [] ?_
  refine dQ [30] [] (add_int (m := ((b.toNat % 16 + 1 : Nat) : Int)) tab_ok rfl rfl hw2) ?_;refine dQ [29, 31] [] (str_mid (l := hexD) (lo := b.toNat % 16) (hi := b.toNat % 16 + 1) tab_ok rfl rfl rfl rfl hle2 (by omega) hcut2) ?_
  refine dQ [28, 32] [] (add_str (a := (l.take i).flatMap hexB ++ [hexC (b.toNat / 16)]) (b := [hexC (b.toNat % 16)]) rfl rfl hlen2 rfl) ?_;refine dC [33] [] ?_;refine dreg_end (by kernel_rfl) ?_
  refine blk_n ?_;refine seq_n ?_;refine wc_region ?_;refine rC ?_;refine rQ iD ?_;refine rC ?_;refine reg_nil ?_
  exact loop_n (i + 1) [] hlt (by omega) (.of rfl rfl rfl rfl rfl ⟨⟨_, rfl, .refl _⟩, rfl, ⟨_, rfl, AVLe.of_eq (by rw [hgo]; rfl)⟩, rfl, ⟨_, rfl, .refl _⟩, rfl, trivial⟩ trivial)
 ·have he : i = l.length := by have := of_decide_eq_false h3; omega
  subst he
  rw [List.take_length]
  by_cases hn : l = []
  ·have hd : decide (l.flatMap hexB = []) = true := by rw [hn]; rfl
   rw [show hexP l = [45] from if_pos hn]
   refine wc_exit ?_;refine seq_x ?_;refine loop_x ?_;refine blk_x ?_;refine seq_n ?_;refine qR ?_;refine rC ?_;refine rQ (eql_s (a := l.flatMap hexB) (b := []) tab_ok rfl rfl rfl) ?_
   refine nS ?_;refine wT ?_;refine wc_region ?_;refine rC ?_;refine nR ?_;iterate 2 refine rC ?_
   refine nS ?_;refine wc_ret ?_
   exact ⟨trivial, [], lf⟩
  ·have hd : decide (l.flatMap hexB = []) = false := dF fun e => hn (by
    have := hexB_len l
    rw [e] at this
    exact List.eq_nil_of_length_eq_zero (by simp at this; omega))
   rw [show hexP l = l.flatMap hexB from if_neg hn]
   refine wc_exit ?_;refine seq_x ?_;refine loop_x ?_;refine blk_x ?_;refine seq_n ?_;refine qR ?_;refine rC ?_;refine rQ (eql_s (a := l.flatMap hexB) (b := []) tab_ok rfl rfl rfl) ?_
   refine nS ?_;refine wF ?_;refine kS ?_;refine sR ?_;iterate 2 refine rC ?_
   refine nS ?_;refine wc_ret ?_
   exact ⟨trivial, [], lf⟩
theorem rline_read (o : POp) (hok : o.Ok) (hL : o.data.length ≤ 1000000000) (hk : o.kind = 1) (hd0 : o.data = []) : FnIs Tryz.prog 85 [.d (encPOp o)] [] (.d (strD (lineP o))) [] := by
 obtain ⟨⟨kk0, kk1⟩, h0, h1⟩ := hok
 have k0 : -9223372036854775808 ≤ o.kind := by omega
 have k1 : o.kind ≤ 9223372036854775807 := by omega
 have hwk : IntKind.i64.wrap o.kind = o.kind := wrap_i64 (by omega) (by omega)
 have l1 := itoa_len h0 h1
 have l2 := itoa_len k0 k1
 have l3 := hexP_len o.data
 have hk1 : decide (o.kind = 1) = true := dT (by omega)
 have hd := len0_iff o.data true (dT hd0)
 rw [show lineP o = sRead ++ [32] ++ Lib.itoa o.index by rw [lineP, if_pos ⟨hk, hd0⟩]; simp]
 refine fnIs_of tab_ok Tryz.func85 rfl rfl rfl ?_;refine sR ?_;refine rN ?_;refine rC ?_;refine nQ ?_;refine sR ?_;refine rC ?_;refine rQ iB ?_;iterate 2 refine rC ?_
 refine rO ?_;refine rC ?_;refine rO ?_;refine rQ iB ?_;refine rO ?_;refine rQ iE ?_;refine rO ?_;refine rC ?_;refine rQ iT ?_;refine nS ?_;refine wT ?_;refine sR ?_
 refine rC ?_;refine rQ iB ?_;refine rQ (call_r (number_is _ h0 h1) rfl rfl (arg_e arg_nil) (.inl rfl) (fun _ => rfl)) ?_
 refine rQ (add_str (a := sRead ++ [32]) (b := Lib.itoa o.index) rfl rfl (by simp [sRead]; omega) rfl) ?_
 refine rC ?_;refine nS ?_;refine wc_ret ?_;refine seq_r ?_
 exact ⟨trivial, [], lf⟩
theorem rline_write (o : POp) (hok : o.Ok) (hL : o.data.length ≤ 1000000000) (hk : o.kind = 2) : FnIs Tryz.prog 85 [.d (encPOp o)] [] (.d (strD (lineP o))) [] := by
 obtain ⟨⟨kk0, kk1⟩, h0, h1⟩ := hok
 have k0 : -9223372036854775808 ≤ o.kind := by omega
 have k1 : o.kind ≤ 9223372036854775807 := by omega
 have hwk : IntKind.i64.wrap o.kind = o.kind := wrap_i64 (by omega) (by omega)
 have l1 := itoa_len h0 h1
 have l2 := itoa_len k0 k1
 have l3 := hexP_len o.data
 have hk1 : decide (o.kind = 1) = false := dF (by omega)
 have hk2 : decide (o.kind = 2) = true := dT (by omega)
 rw [show lineP o = sWrite ++ [32] ++ Lib.itoa o.index ++ [32] ++ hexP o.data by rw [lineP, if_neg (fun h => by have := h.1; omega), if_pos hk]; simp]
 refine fnIs_of tab_ok Tryz.func85 rfl rfl rfl ?_;refine sR ?_;refine rN ?_;refine rC ?_;refine nQ ?_;refine sR ?_;refine rC ?_;refine rQ iB ?_;iterate 2 refine rC ?_
 iterate 4 refine rS ?_
 refine rQ iF ?_;refine nS ?_;refine wG ?_;refine kS ?_;refine qR ?_;refine rC ?_;refine rQ iB ?_;refine rC ?_;refine nS ?_;refine wT ?_;refine wc_seq ?_;refine wc_draw (by kernel_rfl) ?_
 refine dC [1] [64] ?_;refine dQ [19] [64] iB ?_;refine dQ [20] [] (call_r (number_is _ h0 h1) rfl rfl (arg_e arg_nil) (.inl rfl) (fun _ => rfl)) ?_
 refine dQ [21] [] (add_str (a := sWrite ++ [32]) (b := Lib.itoa o.index) rfl rfl (by simp [sWrite]; omega) rfl) ?_
 refine dQ [22] [] (add_str (a := sWrite ++ [32] ++ Lib.itoa o.index) (b := [32]) rfl rfl (by simp [sWrite]; omega) rfl) ?_
 refine dC [1] [64] ?_;refine dQ [24] [64] iB ?_;refine dQ [25] [] (call_r (rhex_is o.data hL) rfl rfl (arg_e arg_nil) (.inl rfl) (fun _ => rfl)) ?_
 refine dQ [23, 26] [] (add_str (a := sWrite ++ [32] ++ Lib.itoa o.index ++ [32]) (b := hexP o.data) rfl rfl (by simp [sWrite]; omega) rfl) ?_
 refine dC [27] [] ?_;refine dreg_end (by kernel_rfl) ?_;refine seq_n ?_;refine wc_ret ?_;refine seq_r ?_
 exact ⟨trivial, [], lf⟩
theorem rline_flush (o : POp) (hok : o.Ok) (hL : o.data.length ≤ 1000000000) (hk : o.kind = 3) (hi0 : o.index = 0) (hd0 : o.data = []) : FnIs Tryz.prog 85 [.d (encPOp o)] [] (.d (strD (lineP o))) [] := by
 obtain ⟨⟨kk0, kk1⟩, h0, h1⟩ := hok
 have k0 : -9223372036854775808 ≤ o.kind := by omega
 have k1 : o.kind ≤ 9223372036854775807 := by omega
 have hwk : IntKind.i64.wrap o.kind = o.kind := wrap_i64 (by omega) (by omega)
 have l1 := itoa_len h0 h1
 have l2 := itoa_len k0 k1
 have l3 := hexP_len o.data
 have hk1 : decide (o.kind = 1) = false := dF (by omega)
 have hk2 : decide (o.kind = 2) = false := dF (by omega)
 have hk3 : decide (o.kind = 3) = true := dT (by omega)
 have hd := len0_iff o.data true (dT hd0)
 have hi : decide (o.index = 0) = true := dT hi0
 rw [show lineP o = sFlush by rw [lineP, if_neg (fun h => by have := h.1; omega), if_neg (by omega), if_pos ⟨hk, hi0, hd0⟩]]
 refine fnIs_of tab_ok Tryz.func85 rfl rfl rfl ?_;refine sR ?_;refine rN ?_;refine rC ?_;refine nQ ?_;refine sR ?_;refine rC ?_;refine rQ iB ?_;iterate 2 refine rC ?_
 iterate 4 refine rS ?_
 refine rQ iF ?_;refine nS ?_;refine wG ?_;refine kS ?_;refine qR ?_;refine rC ?_;refine rQ iB ?_;refine rC ?_;refine nS ?_;refine wF ?_;refine kS ?_;refine qR ?_
 refine rC ?_;refine rQ iB ?_;iterate 2 refine rC ?_
 refine rO ?_;refine rC ?_;refine rO ?_;refine rQ iB ?_;refine rO ?_;refine rC ?_;refine rQ iT ?_;refine rC ?_;refine rO ?_;refine rC ?_;refine rO ?_;refine rQ iB ?_
 refine rO ?_;refine rQ iE ?_;refine rO ?_;refine rC ?_;refine rQ iT ?_;refine nS ?_;refine wT ?_;refine sR ?_;refine rC ?_;refine nS ?_;refine wc_ret ?_;refine seq_r ?_
 exact ⟨trivial, [], lf⟩
theorem rline_op1 (o : POp) (hok : o.Ok) (hL : o.data.length ≤ 1000000000) (hk : o.kind = 1) (hd0 : ¬ o.data = []) : FnIs Tryz.prog 85 [.d (encPOp o)] [] (.d (strD (lineP o))) [] := by
 obtain ⟨⟨kk0, kk1⟩, h0, h1⟩ := hok
 have k0 : -9223372036854775808 ≤ o.kind := by omega
 have k1 : o.kind ≤ 9223372036854775807 := by omega
 have hwk : IntKind.i64.wrap o.kind = o.kind := wrap_i64 (by omega) (by omega)
 have l1 := itoa_len h0 h1
 have l2 := itoa_len k0 k1
 have l3 := hexP_len o.data
 have hk1 : decide (o.kind = 1) = true := dT (by omega)
 have hk2 : decide (o.kind = 2) = false := dF (by omega)
 have hk3 : decide (o.kind = 3) = false := dF (by omega)
 have hd := len0_iff o.data false (dF hd0)
 rw [show lineP o = sOp ++ [32] ++ Lib.itoa o.kind ++ [32] ++ Lib.itoa o.index ++ [32] ++ hexP o.data by rw [lineP, if_neg (fun h => hd0 h.2), if_neg (by omega), if_neg (fun h => by have := h.1; omega)]; simp]
 refine fnIs_of tab_ok Tryz.func85 rfl rfl rfl ?_;refine sR ?_;refine rN ?_;refine rC ?_;refine nQ ?_;refine sR ?_;refine rC ?_;refine rQ iB ?_;iterate 2 refine rC ?_
 refine rO ?_;refine rC ?_;refine rO ?_;refine rQ iB ?_;refine rO ?_;refine rQ iE ?_;refine rO ?_;refine rC ?_;refine rQ iT ?_;refine nS ?_;refine wF ?_;refine kS ?_
 refine qR ?_;refine rC ?_;refine rQ iB ?_;refine rC ?_;refine nS ?_;refine wF ?_;refine kS ?_;refine qR ?_;refine rC ?_;refine rQ iB ?_;iterate 2 refine rC ?_
 iterate 3 refine rS ?_
 refine rQ iF ?_;refine rC ?_;iterate 4 refine rT ?_
 refine rQ iG ?_;refine nS ?_;refine wG ?_;refine kS ?_;refine wc_seq ?_;refine wc_draw (by kernel_rfl) ?_;refine dC [1] [64] ?_;refine dQ [42] [64] iB ?_;refine dQ [43] [] (conv_int (m := o.kind) tab_ok rfl rfl rfl hwk) ?_
 refine dQ [44] [] (call_r (number_is _ k0 k1) rfl rfl (arg_e arg_nil) (.inl rfl) (fun _ => rfl)) ?_
 refine dQ [45] [] (add_str (a := sOp ++ [32]) (b := Lib.itoa o.kind) rfl rfl (by simp [sOp]; omega) rfl) ?_
 refine dQ [46] [] (add_str (a := sOp ++ [32] ++ Lib.itoa o.kind) (b := [32]) rfl rfl (by simp [sOp]; omega) rfl) ?_
 refine dC [1] [64] ?_;refine dQ [48] [64] iB ?_;refine dQ [49] [] (call_r (number_is _ h0 h1) rfl rfl (arg_e arg_nil) (.inl rfl) (fun _ => rfl)) ?_
 refine dQ [47, 50] [] (add_str (a := sOp ++ [32] ++ Lib.itoa o.kind ++ [32]) (b := Lib.itoa o.index) rfl rfl (by simp [sOp]; omega) rfl) ?_
 refine dQ [51] [] (add_str (a := sOp ++ [32] ++ Lib.itoa o.kind ++ [32] ++ Lib.itoa o.index) (b := [32]) rfl rfl (by simp [sOp]; omega) rfl) ?_
 refine dC [1] [64] ?_;refine dQ [53] [64] iB ?_;refine dQ [54] [] (call_r (rhex_is o.data hL) rfl rfl (arg_e arg_nil) (.inl rfl) (fun _ => rfl)) ?_
 refine dQ [52, 55] [] (add_str (a := sOp ++ [32] ++ Lib.itoa o.kind ++ [32] ++ Lib.itoa o.index ++ [32]) (b := hexP o.data) rfl rfl (by simp [sOp]; omega) rfl) ?_
 refine dC [56] [] ?_;refine dreg_end (by kernel_rfl) ?_;refine seq_n ?_;refine wc_ret ?_
 exact ⟨trivial, [], lf⟩
theorem rline_op2 (o : POp) (hok : o.Ok) (hL : o.data.length ≤ 1000000000) (hk1 : ¬ o.kind = 1) (hk2 : ¬ o.kind = 2) (hk3 : ¬ o.kind = 3) : FnIs Tryz.prog 85 [.d (encPOp o)] [] (.d (strD (lineP o))) [] := by
 obtain ⟨⟨kk0, kk1⟩, h0, h1⟩ := hok
 have k0 : -9223372036854775808 ≤ o.kind := by omega
 have k1 : o.kind ≤ 9223372036854775807 := by omega
 have hwk : IntKind.i64.wrap o.kind = o.kind := wrap_i64 (by omega) (by omega)
 have l1 := itoa_len h0 h1
 have l2 := itoa_len k0 k1
 have l3 := hexP_len o.data
 have hk1 : decide (o.kind = 1) = false := dF (by omega)
 have hk2 : decide (o.kind = 2) = false := dF (by omega)
 have hk3 : decide (o.kind = 3) = false := dF (by omega)
 rw [show lineP o = sOp ++ [32] ++ Lib.itoa o.kind ++ [32] ++ Lib.itoa o.index ++ [32] ++ hexP o.data by rw [lineP, if_neg (fun h => by have := h.1; omega), if_neg (by omega), if_neg (fun h => by have := h.1; omega)]; simp]
 refine fnIs_of tab_ok Tryz.func85 rfl rfl rfl ?_;refine sR ?_;refine rN ?_;refine rC ?_;refine nQ ?_;refine sR ?_;refine rC ?_;refine rQ iB ?_;iterate 2 refine rC ?_
 iterate 4 refine rS ?_
 refine rQ iF ?_;refine nS ?_;refine wG ?_;refine kS ?_;refine qR ?_;refine rC ?_;refine rQ iB ?_;refine rC ?_;refine nS ?_;refine wF ?_;refine kS ?_;refine qR ?_
 refine rC ?_;refine rQ iB ?_;iterate 2 refine rC ?_
 iterate 3 refine rS ?_
 refine rQ iF ?_;refine rC ?_;iterate 4 refine rT ?_
 refine rQ iG ?_;refine nS ?_;refine wG ?_;refine kS ?_;refine wc_seq ?_;refine wc_draw (by kernel_rfl) ?_;refine dC [1] [64] ?_;refine dQ [42] [64] iB ?_;refine dQ [43] [] (conv_int (m := o.kind) tab_ok rfl rfl rfl hwk) ?_
 refine dQ [44] [] (call_r (number_is _ k0 k1) rfl rfl (arg_e arg_nil) (.inl rfl) (fun _ => rfl)) ?_
 refine dQ [45] [] (add_str (a := sOp ++ [32]) (b := Lib.itoa o.kind) rfl rfl (by simp [sOp]; omega) rfl) ?_
 refine dQ [46] [] (add_str (a := sOp ++ [32] ++ Lib.itoa o.kind) (b := [32]) rfl rfl (by simp [sOp]; omega) rfl) ?_
 refine dC [1] [64] ?_;refine dQ [48] [64] iB ?_;refine dQ [49] [] (call_r (number_is _ h0 h1) rfl rfl (arg_e arg_nil) (.inl rfl) (fun _ => rfl)) ?_
 refine dQ [47, 50] [] (add_str (a := sOp ++ [32] ++ Lib.itoa o.kind ++ [32]) (b := Lib.itoa o.index) rfl rfl (by simp [sOp]; omega) rfl) ?_
 refine dQ [51] [] (add_str (a := sOp ++ [32] ++ Lib.itoa o.kind ++ [32] ++ Lib.itoa o.index) (b := [32]) rfl rfl (by simp [sOp]; omega) rfl) ?_
 refine dC [1] [64] ?_;refine dQ [53] [64] iB ?_;refine dQ [54] [] (call_r (rhex_is o.data hL) rfl rfl (arg_e arg_nil) (.inl rfl) (fun _ => rfl)) ?_
 refine dQ [52, 55] [] (add_str (a := sOp ++ [32] ++ Lib.itoa o.kind ++ [32] ++ Lib.itoa o.index ++ [32]) (b := hexP o.data) rfl rfl (by simp [sOp]; omega) rfl) ?_
 refine dC [56] [] ?_;refine dreg_end (by kernel_rfl) ?_;refine seq_n ?_;refine wc_ret ?_
 exact ⟨trivial, [], lf⟩
theorem rline_op3 (o : POp) (hok : o.Ok) (hL : o.data.length ≤ 1000000000) (hk : o.kind = 3) (hi0 : ¬ o.index = 0) : FnIs Tryz.prog 85 [.d (encPOp o)] [] (.d (strD (lineP o))) [] := by
 obtain ⟨⟨kk0, kk1⟩, h0, h1⟩ := hok
 have k0 : -9223372036854775808 ≤ o.kind := by omega
 have k1 : o.kind ≤ 9223372036854775807 := by omega
 have hwk : IntKind.i64.wrap o.kind = o.kind := wrap_i64 (by omega) (by omega)
 have l1 := itoa_len h0 h1
 have l2 := itoa_len k0 k1
 have l3 := hexP_len o.data
 have hk1 : decide (o.kind = 1) = false := dF (by omega)
 have hk2 : decide (o.kind = 2) = false := dF (by omega)
 have hk3 : decide (o.kind = 3) = true := dT (by omega)
 have hi : decide (o.index = 0) = false := dF hi0
 rw [show lineP o = sOp ++ [32] ++ Lib.itoa o.kind ++ [32] ++ Lib.itoa o.index ++ [32] ++ hexP o.data by rw [lineP, if_neg (fun h => by have := h.1; omega), if_neg (by omega), if_neg (fun h => hi0 h.2.1)]; simp]
 refine fnIs_of tab_ok Tryz.func85 rfl rfl rfl ?_;refine sR ?_;refine rN ?_;refine rC ?_;refine nQ ?_;refine sR ?_;refine rC ?_;refine rQ iB ?_;iterate 2 refine rC ?_
 iterate 4 refine rS ?_
 refine rQ iF ?_;refine nS ?_;refine wG ?_;refine kS ?_;refine qR ?_;refine rC ?_;refine rQ iB ?_;refine rC ?_;refine nS ?_;refine wF ?_;refine kS ?_;refine qR ?_
 refine rC ?_;refine rQ iB ?_;iterate 2 refine rC ?_
 refine rO ?_;refine rC ?_;refine rO ?_;refine rQ iB ?_;refine rO ?_;refine rC ?_;refine rQ iT ?_;refine rC ?_;iterate 4 refine rS ?_
 refine rQ iF ?_;refine nS ?_;refine wG ?_;refine kS ?_;refine wc_seq ?_;refine wc_draw (by kernel_rfl) ?_;refine dC [1] [64] ?_;refine dQ [42] [64] iB ?_;refine dQ [43] [] (conv_int (m := o.kind) tab_ok rfl rfl rfl hwk) ?_
 refine dQ [44] [] (call_r (number_is _ k0 k1) rfl rfl (arg_e arg_nil) (.inl rfl) (fun _ => rfl)) ?_
 refine dQ [45] [] (add_str (a := sOp ++ [32]) (b := Lib.itoa o.kind) rfl rfl (by simp [sOp]; omega) rfl) ?_
 refine dQ [46] [] (add_str (a := sOp ++ [32] ++ Lib.itoa o.kind) (b := [32]) rfl rfl (by simp [sOp]; omega) rfl) ?_
 refine dC [1] [64] ?_;refine dQ [48] [64] iB ?_;refine dQ [49] [] (call_r (number_is _ h0 h1) rfl rfl (arg_e arg_nil) (.inl rfl) (fun _ => rfl)) ?_
 refine dQ [47, 50] [] (add_str (a := sOp ++ [32] ++ Lib.itoa o.kind ++ [32]) (b := Lib.itoa o.index) rfl rfl (by simp [sOp]; omega) rfl) ?_
 refine dQ [51] [] (add_str (a := sOp ++ [32] ++ Lib.itoa o.kind ++ [32] ++ Lib.itoa o.index) (b := [32]) rfl rfl (by simp [sOp]; omega) rfl) ?_
 refine dC [1] [64] ?_;refine dQ [53] [64] iB ?_;refine dQ [54] [] (call_r (rhex_is o.data hL) rfl rfl (arg_e arg_nil) (.inl rfl) (fun _ => rfl)) ?_
 refine dQ [52, 55] [] (add_str (a := sOp ++ [32] ++ Lib.itoa o.kind ++ [32] ++ Lib.itoa o.index ++ [32]) (b := hexP o.data) rfl rfl (by simp [sOp]; omega) rfl) ?_
 refine dC [56] [] ?_;refine dreg_end (by kernel_rfl) ?_;refine seq_n ?_;refine wc_ret ?_
 exact ⟨trivial, [], lf⟩
theorem rline_op4 (o : POp) (hok : o.Ok) (hL : o.data.length ≤ 1000000000) (hk : o.kind = 3) (hi0 : o.index = 0) (hd0 : ¬ o.data = []) : FnIs Tryz.prog 85 [.d (encPOp o)] [] (.d (strD (lineP o))) [] := by
 obtain ⟨⟨kk0, kk1⟩, h0, h1⟩ := hok
 have k0 : -9223372036854775808 ≤ o.kind := by omega
 have k1 : o.kind ≤ 9223372036854775807 := by omega
 have hwk : IntKind.i64.wrap o.kind = o.kind := wrap_i64 (by omega) (by omega)
 have l1 := itoa_len h0 h1
 have l2 := itoa_len k0 k1
 have l3 := hexP_len o.data
 have hk1 : decide (o.kind = 1) = false := dF (by omega)
 have hk2 : decide (o.kind = 2) = false := dF (by omega)
 have hk3 : decide (o.kind = 3) = true := dT (by omega)
 have hi : decide (o.index = 0) = true := dT hi0
 have hd := len0_iff o.data false (dF hd0)
 rw [show lineP o = sOp ++ [32] ++ Lib.itoa o.kind ++ [32] ++ Lib.itoa o.index ++ [32] ++ hexP o.data by rw [lineP, if_neg (fun h => by have := h.1; omega), if_neg (by omega), if_neg (fun h => hd0 h.2.2)]; simp]
 refine fnIs_of tab_ok Tryz.func85 rfl rfl rfl ?_;refine sR ?_;refine rN ?_;refine rC ?_;refine nQ ?_;refine sR ?_;refine rC ?_;refine rQ iB ?_;iterate 2 refine rC ?_
 iterate 4 refine rS ?_
 refine rQ iF ?_;refine nS ?_;refine wG ?_;refine kS ?_;refine qR ?_;refine rC ?_;refine rQ iB ?_;refine rC ?_;refine nS ?_;refine wF ?_;refine kS ?_;refine qR ?_
 refine rC ?_;refine rQ iB ?_;iterate 2 refine rC ?_
 refine rO ?_;refine rC ?_;refine rO ?_;refine rQ iB ?_;refine rO ?_;refine rC ?_;refine rQ iT ?_;refine rC ?_;refine rO ?_;refine rC ?_;refine rO ?_;refine rQ iB ?_
 refine rO ?_;refine rQ iE ?_;refine rO ?_;refine rC ?_;refine rQ iT ?_;refine nS ?_;refine wF ?_;refine kS ?_;refine wc_seq ?_;refine wc_draw (by kernel_rfl) ?_
 refine dC [1] [64] ?_;refine dQ [42] [64] iB ?_;refine dQ [43] [] (conv_int (m := o.kind) tab_ok rfl rfl rfl hwk) ?_;refine dQ [44] [] (call_r (number_is _ k0 k1) rfl rfl (arg_e arg_nil) (.inl rfl) (fun _ => rfl)) ?_
 refine dQ [45] [] (add_str (a := sOp ++ [32]) (b := Lib.itoa o.kind) rfl rfl (by simp [sOp]; omega) rfl) ?_
 refine dQ [46] [] (add_str (a := sOp ++ [32] ++ Lib.itoa o.kind) (b := [32]) rfl rfl (by simp [sOp]; omega) rfl) ?_
 refine dC [1] [64] ?_;refine dQ [48] [64] iB ?_;refine dQ [49] [] (call_r (number_is _ h0 h1) rfl rfl (arg_e arg_nil) (.inl rfl) (fun _ => rfl)) ?_
 refine dQ [47, 50] [] (add_str (a := sOp ++ [32] ++ Lib.itoa o.kind ++ [32]) (b := Lib.itoa o.index) rfl rfl (by simp [sOp]; omega) rfl) ?_
 refine dQ [51] [] (add_str (a := sOp ++ [32] ++ Lib.itoa o.kind ++ [32] ++ Lib.itoa o.index) (b := [32]) rfl rfl (by simp [sOp]; omega) rfl) ?_
 refine dC [1] [64] ?_;refine dQ [53] [64] iB ?_;refine dQ [54] [] (call_r (rhex_is o.data hL) rfl rfl (arg_e arg_nil) (.inl rfl) (fun _ => rfl)) ?_
 refine dQ [52, 55] [] (add_str (a := sOp ++ [32] ++ Lib.itoa o.kind ++ [32] ++ Lib.itoa o.index ++ [32]) (b := hexP o.data) rfl rfl (by simp [sOp]; omega) rfl) ?_
 refine dC [56] [] ?_;refine dreg_end (by kernel_rfl) ?_;refine seq_n ?_;refine wc_ret ?_
 exact ⟨trivial, [], lf⟩
theorem rline_is (o : POp) (hok : o.Ok) (hL : o.data.length ≤ 1000000000) : FnIs Tryz.prog 85 [.d (encPOp o)] [] (.d (strD (lineP o))) [] := by
 by_cases k1 : o.kind = 1
 ·by_cases hd : o.data = []
  ·exact rline_read o hok hL k1 hd
  ·exact rline_op1 o hok hL k1 hd
 by_cases k2 : o.kind = 2
 ·exact rline_write o hok hL k2
 by_cases k3 : o.kind = 3
 ·by_cases hi : o.index = 0
  ·by_cases hd : o.data = []
   ·exact rline_flush o hok hL k3 hi hd
   ·exact rline_op4 o hok hL k3 hi hd
  ·exact rline_op3 o hok hL k3 hi
 ·exact rline_op2 o hok hL k1 k2 k3
end Go.Proofs.YtmojbghcngdkpaaGreatDoor
namespace Go.Plain
open Go.Eng Go.Lib
theorem splitL_snoc (c b : UInt8) : ∀ (l : List UInt8), ∃ ws w, splitL l c = ws ++ [w] ∧ splitL (l ++ [b]) c = if b = c then ws ++ [w] ++ [[]] else ws ++ [w ++ [b]]
 | [] => ⟨[], [], rfl, by
   simp only [List.nil_append, splitL]
   split <;> rfl⟩
 | a :: l => by
  obtain ⟨ws, w, h1, h2⟩ := splitL_snoc c b l
  by_cases ha : a = c
  ·refine ⟨[] :: ws, w, by rw [splitL, if_pos ha, h1]; rfl, ?_⟩
   rw [List.cons_append, splitL, if_pos ha, h2]
   split <;> rfl
  ·cases ws with
   | nil =>
    refine ⟨[], a :: w, by rw [splitL, if_neg ha, h1]; rfl, ?_⟩
    rw [List.cons_append, splitL, if_neg ha, h2]
    by_cases hb : b = c
    ·simp only [if_pos hb]; rfl
    ·simp only [if_neg hb]; rfl
   | cons v ws =>
    refine ⟨(a :: v) :: ws, w, by rw [splitL, if_neg ha, h1]; rfl, ?_⟩
    rw [List.cons_append, splitL, if_neg ha, h2]
    by_cases hb : b = c
    ·simp only [if_pos hb]; rfl
    ·simp only [if_neg hb]; rfl
end Go.Plain
namespace Go.Proofs.YtmojbghcngdkpaaGreatDoor
open Go.Eng Go.Plain
set_option maxHeartbeats 4000000
set_option maxRecDepth 20000
attribute [local irreducible] WC RegS RegD SeqQ BlkQ ScoQ RegK CutK Sat SatN FnIs LoopQ StepIs OpIs
theorem row_ex {t : TypeId} {s : Nat} {ex : Bool} {α : Type} {enc : α → D} {xs : List α} : RowLe (.ds t s ex enc xs) (.ds t s false enc xs) := by
 intro σ w X r h
 rcases h with h | ⟨b, c, cur, h1, _, h3⟩
 ·exact .inl h
 ·exact .inr ⟨b, c, cur, h1, (fun h => by cases h), h3⟩
theorem row_first {ex : Bool} : RowLe (.lits 9 1 1 ex (.acons (.d (strD [])) .anil)) (rowS [[]]) := fun σ w X r h => row_ex σ w X r (RowLe.lits_ds (xs := [[]]) (enc := strD) (fun _ => rfl) rfl σ w X r h)
theorem rcut_own (s : List UInt8) (c : UInt8) (hs : s.length ≤ 1048575) : FnIs Tryz.prog 69 [.d (strD s), .int .u8 c.toNat] [] (.own 64 0 (splitL s c).length 1 none) [(64, rowS (splitL s c))] := by
 refine fnIs_of tab_ok Tryz.func69 rfl rfl rfl ?_;refine sR ?_;refine rC ?_;refine nR ?_;refine reg_new (build_slice (s := 1) tab_ok rfl rfl rfl rfl rfl rfl rfl rfl) rfl ?_
 refine rC ?_;refine nQ ?_;refine sR ?_;refine rC ?_;refine nS ?_;refine wc_block ?_
 refine wc_inv (fun i : Nat => ⟨[(6, .int .i64 i), (5, .own 65 0 (splitL (s.take i) c).length 1 none), (1, .int .u8 c.toNat), (0, .d (strD s))], [(65, some (rowS (splitL (s.take i) c)))], 72, Tryz.f69.ntmps, 64⟩) (fun i => i ≤ s.length) (fun i => s.length - i) 0 [(65, some 72)] (Nat.zero_le _)
  (.of rfl rfl rfl rfl rfl ⟨⟨_, rfl, .refl _⟩, rfl, ⟨_, rfl, .refl _⟩, rfl, ⟨_, rfl, .refl _⟩, rfl, ⟨_, rfl, .refl _⟩, rfl, trivial⟩ ⟨⟨rfl, rfl, _, rfl, row_first⟩, trivial⟩) ?_
 intro i hi
 refine wc_of ?_;refine qR ?_;iterate 2 refine rC ?_
 refine rQ (len_s tab_ok rfl rfl) ?_;refine rC ?_;refine nS ?_
 refine wc_cond rfl (fun h3 => ?_) (fun h3 => ?_)
 ·have hlt : i < s.length := by have := of_decide_eq_true h3; omega
  obtain ⟨b, hb⟩ : ∃ b, s[i]? = some b := ⟨_, List.getElem?_eq_getElem hlt⟩
  obtain ⟨ws, w, h1, h2⟩ := splitL_snoc c b (s.take i)
  have ht : s.take (i + 1) = s.take i ++ [b] := by rw [List.take_add_one, hb]; rfl
  rw [← ht] at h2
  have hsl := splitL_len (s.take i) c
  rw [h1, List.length_take] at hsl
  rw [h1]
  by_cases hbc : b = c
  ·have hd : decide ((b.toNat : Int) = (c.toNat : Int)) = true := dT (by rw [hbc])
   rw [if_pos hbc] at h2
   have hL : (ws ++ [w]).length = (ws ++ [w]).length := rfl
   have hlen : (ws ++ [w]).length + [([] : List UInt8)].length ≤ 1048576 := by simp only [List.length_cons, List.length_nil]; omega
   have hlq : (splitL (s.take (i + 1)) c).length = (ws ++ [w]).length + [([] : List UInt8)].length := by rw [h2, List.length_append]
   refine kS ?_;refine wc_seq ?_;refine wc_block ?_;refine qR ?_;iterate 2 refine rC ?_
   refine rQ (index_s (l := s) (m := i) tab_ok rfl rfl rfl hb) ?_;iterate 2 refine rC ?_
   refine nS ?_;refine wT ?_;refine sR ?_;refine rC ?_;refine reg_new (build_slice (s := 1) tab_ok rfl rfl rfl rfl rfl rfl rfl rfl) rfl ?_;refine reg_new2 (append_litsL (α := List UInt8) (s := 1) (enc := strD) (xs := ws ++ [w]) tab_ok [[]] rfl rfl rfl rfl rfl hL rfl rfl rfl rfl (fun _ _ => rfl) (by decide) hlen rfl) rfl ?_
   refine rC ?_;refine nS ?_;refine wc_exit ?_;refine seq_x ?_;refine blk_x ?_;refine seq_n ?_;refine wc_region ?_;refine rC ?_;refine rQ iD ?_;refine rC ?_;refine reg_nil ?_
   exact loop_n (i + 1) [(65, some 160)] hlt (by omega) (.of rfl rfl rfl rfl rfl ⟨⟨_, rfl, .refl _⟩, rfl, ⟨_, rfl, AVLe.of_eq (by rw [hlq]; rfl)⟩, rfl, ⟨_, rfl, .refl _⟩, rfl, ⟨_, rfl, .refl _⟩, rfl, trivial⟩ ⟨⟨rfl, rfl, _, rfl, RowLe.of_eq (by rw [h2]; rfl)⟩, trivial⟩)
  ·have hne : ¬ ((b.toNat : Int) = (c.toNat : Int)) := fun e => hbc (UInt8.toNat_inj.1 (by omega))
   have hd : decide ((b.toNat : Int) = (c.toNat : Int)) = false := dF hne
   rw [if_neg hbc] at h2
   have hwl : (ws ++ [w]).length = ws.length + 1 := by simp
   have hwm : IntKind.i64.wrap ((((ws ++ [w]).length : Nat) : Int) - 1) = (ws.length : Int) := by rw [hwl, wrap_i64 (by omega) (by omega)]; omega
   have hgw : (ws ++ [w])[((ws.length : Int)).toNat]? = some w := by rw [Int.toNat_natCast]; simp
   have hi1 : i + 1 ≤ s.length := hlt
   have hcut : (s.drop i).take (i + 1 - i) = [b] := by
    rw [List.drop_eq_getElem_cons hlt, show i + 1 - i = 1 by omega]
    have : s[i] = b := (List.getElem?_eq_some_iff.1 hb).2
    simp [this]
   have hwle : w.length ≤ s.length := by
    have := split_mem_le (s.take i) c w (by rw [h1]; simp)
    rw [List.length_take] at this
    omega
   have hladd : w.length + [b].length ≤ 9223372036854775807 := by simp; omega
   have hset : (ws ++ [w]).set (((ws.length : Int)).toNat) (w ++ [b]) = ws ++ [w ++ [b]] := by rw [Int.toNat_natCast, List.set_append_right _ _ (Nat.le_refl _)]; simp
   have hlq : (splitL (s.take (i + 1)) c).length = (ws ++ [w]).length := by rw [h2]; simp
   refine kS ?_;refine wc_seq ?_;refine wc_block ?_;refine qR ?_;iterate 2 refine rC ?_
   refine rQ (index_s (l := s) (m := i) tab_ok rfl rfl rfl hb) ?_;iterate 2 refine rC ?_
   refine nS ?_;refine wF ?_;refine kS ?_;refine wc_draw (by kernel_rfl) ?_;iterate 2 refine dC [5] [65] ?_
   refine dQ [23] [65] (len_own tab_ok rfl rfl) ?_;refine dQ [24] [] (sub_int (m := (ws.length : Int)) tab_ok rfl rfl hwm) ?_;iterate 2 refine dC [5] [65] ?_
   refine dQ [27] [65] (len_own tab_ok rfl rfl) ?_;refine dQ [28] [] (sub_int (m := (ws.length : Int)) tab_ok rfl rfl hwm) ?_;refine dQ [26, 29] [65] (index_own tab_ok rfl rfl rfl rfl rfl (by omega) (by omega)) ?_
   refine dQ [30] [65] (load_row tab_ok rfl rfl ⟨rfl, w, hgw, _, rfl, rfl⟩ rfl) ?_;refine dC [0] [] ?_;iterate 2 refine dC [6] [] ?_
   refine dQ [34] [] iD ?_;refine dQ [32, 33, 35] [] (str_mid (l := s) (lo := i) (hi := i + 1) tab_ok rfl rfl rfl rfl hi1 (by omega) hcut) ?_;refine dQ [31, 36] [] (add_str (a := w) (b := [b]) rfl rfl hladd rfl) ?_
   refine dQ [22, 25] [65] (index_own tab_ok rfl rfl rfl rfl rfl (by omega) (by omega)) ?_;refine dreg_s [38, 37] [65] (store_row tab_ok rfl rfl rfl ⟨rfl, w, w ++ [b], hgw, ⟨rfl, rfl, rfl⟩, rfl⟩ rfl) ?_
   refine dreg_end (by kernel_rfl) ?_;refine blk_n ?_;refine seq_n ?_;refine wc_region ?_;refine rC ?_;refine rQ iD ?_;refine rC ?_;refine reg_nil ?_
   exact loop_n (i + 1) [] hlt (by omega) (.of rfl rfl rfl rfl rfl ⟨⟨_, rfl, .refl _⟩, rfl, ⟨_, rfl, AVLe.of_eq (by rw [hlq]; rfl)⟩, rfl, ⟨_, rfl, .refl _⟩, rfl, ⟨_, rfl, .refl _⟩, rfl, trivial⟩ ⟨⟨rfl, rfl, _, rfl, RowLe.of_eq (by rw [h2, ← hset]; rfl)⟩, trivial⟩)
 ·have he : i = s.length := by have := of_decide_eq_false h3; omega
  subst he
  rw [List.take_length]
  refine wc_exit ?_;refine seq_x ?_;refine loop_x ?_;refine blk_x ?_;refine seq_n ?_;refine sR ?_;iterate 2 refine rC ?_
  refine nS ?_;refine wc_ret ?_
  exact ⟨trivial, [(64, some 65)], .of rfl rfl rfl rfl rfl ⟨⟨_, rfl, AVLe.of_eq rfl⟩, rfl, trivial⟩ ⟨⟨rfl, rfl, _, rfl, .refl _⟩, trivial⟩⟩
theorem rcut_is (s : List UInt8) (c : UInt8) (hs : s.length ≤ 1048575) : FnIs Tryz.prog 69 [.d (strD s), .int .u8 c.toNat] [] (.d (.arr 1 strD (splitL s c))) [] :=
 (rcut_own s c hs).freeze_out 64 _ rfl (Frz.own rfl) trivial
def o1 {α : Type} (o : Option α) : Int := match o with
 | some _ => 1
 | none => 0
abbrev intRes (o : Option Int) : AV := .tup (.acons (.int .i64 (o.getD 0)) (.acons (.int .i64 (o1 o)) .anil))
theorem rint_is (s : List UInt8) (hl : s.length ≤ 1048576) : FnIs Tryz.prog 112 [.d (strD s)] [] (intRes (intR s)) [] := by
 obtain ⟨sg, hsg⟩ : ∃ sg, sgOf s = sg := ⟨_, rfl⟩
 obtain ⟨dg, hdg⟩ : ∃ dg, digOf s = dg := ⟨_, rfl⟩
 have hV : intV s = dg.foldl (intStep sg) 0 := by rw [intV, hdg, hsg]
 have hdl : dg.length ≤ s.length := by
  rw [← hdg, digOf]
  split <;> simp
 have hR : intR s = if 19 < dg.length then none else if dg.all isDig = false then none else if Lib.itoa (intV s) = s then some (intV s) else none := by rw [intR, hdg]
 refine fnIs_of tab_ok Tryz.func112 rfl rfl rfl ?_;refine sR ?_;iterate 2 refine rC ?_
 refine nR ?_;refine rC ?_;refine nR ?_;refine rC ?_;refine nR ?_;iterate 2 refine rC ?_
 refine nQ ?_;refine sR ?_;refine rC ?_;refine rQ (len_s tab_ok rfl rfl) ?_;iterate 2 refine rC ?_
 by_cases hm : s.head? = some 45
 ·obtain ⟨b, hb, hb45⟩ : ∃ b, s[0]? = some b ∧ b = 45 := by
   skip
   cases s with
   | nil => simp at hm
   | cons a t => exact ⟨a, rfl, by simpa using hm⟩
  have hpos : 0 < s.length := (List.getElem?_eq_some_iff.1 hb).1
  have hs1 : 1 ≤ s.length := hpos
  have hd0 : decide (0 < (s.length : Int)) = true := dT (by omega)
  have hd1 : decide ((b.toNat : Int) = 45) = true := by rw [hb45]; rfl
  have hdrop : s.drop 1 = dg := by rw [← hdg, digOf, if_pos hm]; cases s <;> rfl
  have hsgv : sg = -1 := by rw [← hsg, sgOf, if_pos hm]
  subst hsgv
  clear hm hdg hsg hb45
  refine rO ?_;refine rC ?_;refine rO ?_;refine rQ (index_s (l := s) (m := 0) tab_ok rfl rfl rfl hb) ?_;refine rO ?_;refine rC ?_;refine rQ iT ?_;refine nS ?_;refine wT ?_
  refine sR ?_;refine rC ?_;refine nS ?_;refine wc_region ?_;refine rC ?_;refine rQ (str_from (l := s) (lo := 1) (m := dg) tab_ok rfl rfl rfl hs1 hdrop) ?_;refine rC ?_
  refine nQ ?_;refine sR ?_;refine rC ?_;refine rQ (len_s tab_ok rfl rfl) ?_;refine rC ?_;refine nS ?_
  by_cases h19 : 19 < dg.length
  ·have hd19 : decide (19 < (dg.length : Int)) = true := dT (by omega)
   have hRn : intR s = none := by rw [hR, if_pos h19]
   rw [hRn]
   refine wT ?_;refine sR ?_;iterate 2 refine rC ?_
   refine nS ?_;refine wc_ret ?_;refine seq_r ?_
   exact ⟨trivial, [], lf⟩
  ·have hd19 : decide (19 < (dg.length : Int)) = false := dF (by omega)
   rw [if_neg h19] at hR
   refine wF ?_;refine kS ?_;refine qR ?_;refine rC ?_;refine nS ?_;refine wc_block ?_
   refine wc_inv (fun i : Nat => ⟨[(7, .int .i64 i), (6, .d (strD dg)), (5, .int .i64 (-1)), (4, .int .i64 ((dg.take i).foldl (intStep (-1)) 0)), (0, .d (strD s))], [], 72, Tryz.f112.ntmps, 64⟩) (fun i => i ≤ dg.length ∧ (dg.take i).all isDig = true) (fun i => dg.length - i) 0 [] ⟨Nat.zero_le _, by simp⟩
    (.of rfl rfl rfl rfl rfl ⟨⟨_, rfl, .refl _⟩, rfl, ⟨_, rfl, .refl _⟩, rfl, ⟨_, rfl, .refl _⟩, rfl, ⟨_, rfl, .refl _⟩, rfl, ⟨_, rfl, .refl _⟩, rfl, trivial⟩ trivial) ?_
   intro i hi
   obtain ⟨hi, hall⟩ := hi
   refine wc_of ?_;refine qR ?_;iterate 2 refine rC ?_
   refine rQ (len_s tab_ok rfl rfl) ?_;refine rC ?_;refine nS ?_
   refine wc_cond rfl (fun h3 => ?_) (fun h3 => ?_)
   ·have hlt : i < dg.length := by have := of_decide_eq_true h3; omega
    obtain ⟨c, hc⟩ : ∃ c, dg[i]? = some c := ⟨_, List.getElem?_eq_getElem hlt⟩
    have hcb := c.toNat_lt
    have hw32 : IntKind.i64.wrap (c.toNat : Int) = (c.toNat : Int) := wrap_i64 (by omega) (by omega)
    have hw33 : IntKind.i64.wrap ((c.toNat : Int) - 48) = (c.toNat : Int) - 48 := wrap_i64 (by omega) (by omega)
    have htk : dg.take (i + 1) = dg.take i ++ [c] := by rw [List.take_add_one, hc]; rfl
    refine kS ?_;refine wc_seq ?_;refine wc_block ?_;refine sR ?_;iterate 2 refine rC ?_
    refine rQ (index_s (l := dg) (m := i) tab_ok rfl rfl rfl hc) ?_;refine rQ (conv_int (m := (c.toNat : Int)) tab_ok rfl rfl rfl hw32) ?_;refine rQ (sub_int tab_ok rfl rfl hw33) ?_
    refine rC ?_;refine nQ ?_;refine sR ?_;iterate 3 refine rC ?_
    by_cases k1 : c.toNat < 48
    ·have e1 : decide ((c.toNat : Int) - 48 < 0) = true := dT (by omega)
     have hRn : intR s = none := by
      rw [hR, if_pos]
      rw [List.all_eq_false]
      exact ⟨c, List.mem_of_getElem? hc, by simp [isDig]; omega⟩
     rw [hRn]
     iterate 2 refine rS ?_
     refine rQ iT ?_;refine nS ?_;refine wV ?_;refine sR ?_;iterate 2 refine rC ?_
     refine nS ?_;refine wc_ret ?_;refine seq_r ?_;refine blk_r ?_;refine seq_r ?_;refine loop_r ?_;refine blk_r ?_;refine seq_r ?_
     exact ⟨trivial, [], lf⟩
    ·have e1 : decide ((c.toNat : Int) - 48 < 0) = false := dF (by omega)
     refine rO ?_;refine rC ?_;refine rO ?_;refine rC ?_;refine rQ iF ?_;refine nS ?_
     by_cases k2 : 57 < c.toNat
     ·have e2 : decide (9 < (c.toNat : Int) - 48) = true := dT (by omega)
      have hRn : intR s = none := by
       rw [hR, if_pos]
       rw [List.all_eq_false]
       exact ⟨c, List.mem_of_getElem? hc, by simp [isDig]; omega⟩
      rw [hRn]
      refine wT ?_;refine sR ?_;iterate 2 refine rC ?_
      refine nS ?_;refine wc_ret ?_;refine seq_r ?_;refine blk_r ?_;refine seq_r ?_;refine loop_r ?_;refine blk_r ?_;refine seq_r ?_
      exact ⟨trivial, [], lf⟩
     ·have e2 : decide (9 < (c.toNat : Int) - 48) = false := dF (by omega)
      have hst : (dg.take (i + 1)).foldl (intStep (-1)) 0 = intStep (-1) ((dg.take i).foldl (intStep (-1)) 0) c := by rw [htk, List.foldl_append]; rfl
      refine wF ?_;refine kS ?_;refine wc_region ?_;refine rC ?_;refine rQ (mul_int tab_ok rfl rfl rfl) ?_;iterate 2 refine rC ?_
      refine rQ (mul_int tab_ok rfl rfl rfl) ?_;refine rQ (add_int tab_ok rfl rfl rfl) ?_;refine rC ?_;refine reg_nil ?_;refine blk_n ?_;refine seq_n ?_;refine wc_region ?_
      refine rC ?_;refine rQ iD ?_;refine rC ?_;refine reg_nil ?_
      exact loop_n (i + 1) [] ⟨hlt, by rw [htk, List.all_append, hall]; simp [isDig]; omega⟩ (by omega) (.of rfl rfl rfl rfl rfl ⟨⟨_, rfl, .refl _⟩, rfl, ⟨_, rfl, .refl _⟩, rfl, ⟨_, rfl, .refl _⟩, rfl, ⟨_, rfl, AVLe.of_eq (by rw [hst]; rfl)⟩, rfl, ⟨_, rfl, .refl _⟩, rfl, trivial⟩ trivial)
   ·have he : i = dg.length := by have := of_decide_eq_false h3; omega
    subst he
    rw [List.take_length] at hall ⊢
    rw [if_neg (by rw [hall]; decide)] at hR
    rw [← hV]
    obtain ⟨hn0, hn1⟩ : -9223372036854775808 ≤ intV s ∧ intV s ≤ 9223372036854775807 := by rw [hV]; exact fold_in _ _ _ ⟨by decide, by decide⟩
    refine wc_exit ?_;refine seq_x ?_;refine loop_x ?_;refine blk_x ?_;refine seq_n ?_;refine qR ?_;refine rC ?_;refine rQ (call_r (number_is _ hn0 hn1) rfl rfl (arg_e arg_nil) (.inl rfl) (fun _ => rfl)) ?_
    refine rC ?_;refine rQ (neq_s (a := Lib.itoa (intV s)) (b := s) tab_ok rfl rfl rfl) ?_;refine nS ?_
    by_cases hq : Lib.itoa (intV s) = s
    ·have e3 : (!decide (Lib.itoa (intV s) = s)) = false := by rw [dT hq]; rfl
     rw [if_pos hq] at hR
     rw [hR]
     refine wF ?_;refine kS ?_;refine sR ?_;iterate 3 refine rC ?_
     refine nS ?_;refine wc_ret ?_
     exact ⟨trivial, [], lf⟩
    ·have e3 : (!decide (Lib.itoa (intV s) = s)) = true := by rw [dF hq]; rfl
     rw [if_neg hq] at hR
     rw [hR]
     refine wT ?_;refine sR ?_;iterate 2 refine rC ?_
     refine nS ?_;refine wc_ret ?_;refine seq_r ?_
     exact ⟨trivial, [], lf⟩
 ·skip
  by_cases hpos : 0 < s.length
  ·obtain ⟨b, hb⟩ : ∃ b, s[0]? = some b := ⟨_, List.getElem?_eq_getElem hpos⟩
   have hd0 : decide (0 < (s.length : Int)) = true := dT (by omega)
   have hd1 : decide ((b.toNat : Int) = 45) = false := dF fun e => hm (by
    have : b = 45 := UInt8.toNat_inj.1 (by show b.toNat = 45; omega)
    subst this
    skip
    cases s with
    | nil => simp at hb
    | cons a t => simpa using hb)
   have hdv : dg = s := by rw [← hdg, digOf, if_neg hm]
   have hsgv : sg = 1 := by rw [← hsg, sgOf, if_neg hm]
   clear hm hdg hsg
   subst sg
   subst dg
   refine rO ?_;refine rC ?_;refine rO ?_;refine rQ (index_s (l := s) (m := 0) tab_ok rfl rfl rfl hb) ?_;refine rO ?_;refine rC ?_;refine rQ iT ?_;refine nS ?_;refine wF ?_
   refine kS ?_;refine qR ?_;refine rC ?_;refine rQ (len_s tab_ok rfl rfl) ?_;refine rC ?_;refine nS ?_
   by_cases h19 : 19 < s.length
   ·have hd19 : decide (19 < (s.length : Int)) = true := dT (by omega)
    have hRn : intR s = none := by rw [hR, if_pos h19]
    rw [hRn]
    refine wT ?_;refine sR ?_;iterate 2 refine rC ?_
    refine nS ?_;refine wc_ret ?_;refine seq_r ?_
    exact ⟨trivial, [], lf⟩
   ·have hd19 : decide (19 < (s.length : Int)) = false := dF (by omega)
    rw [if_neg h19] at hR
    refine wF ?_;refine kS ?_;refine qR ?_;refine rC ?_;refine nS ?_;refine wc_block ?_
    refine wc_inv (fun i : Nat => ⟨[(7, .int .i64 i), (6, .d (strD s)), (5, .int .i64 1), (4, .int .i64 ((s.take i).foldl (intStep 1) 0)), (0, .d (strD s))], [], 72, Tryz.f112.ntmps, 64⟩) (fun i => i ≤ s.length ∧ (s.take i).all isDig = true) (fun i => s.length - i) 0 [] ⟨Nat.zero_le _, by simp⟩
     (.of rfl rfl rfl rfl rfl ⟨⟨_, rfl, .refl _⟩, rfl, ⟨_, rfl, .refl _⟩, rfl, ⟨_, rfl, .refl _⟩, rfl, ⟨_, rfl, .refl _⟩, rfl, ⟨_, rfl, .refl _⟩, rfl, trivial⟩ trivial) ?_
    intro i hi
    obtain ⟨hi, hall⟩ := hi
    refine wc_of ?_;refine qR ?_;iterate 2 refine rC ?_
    refine rQ (len_s tab_ok rfl rfl) ?_;refine rC ?_;refine nS ?_
    refine wc_cond rfl (fun h3 => ?_) (fun h3 => ?_)
    ·have hlt : i < s.length := by have := of_decide_eq_true h3; omega
     obtain ⟨c, hc⟩ : ∃ c, s[i]? = some c := ⟨_, List.getElem?_eq_getElem hlt⟩
     have hcb := c.toNat_lt
     have hw32 : IntKind.i64.wrap (c.toNat : Int) = (c.toNat : Int) := wrap_i64 (by omega) (by omega)
     have hw33 : IntKind.i64.wrap ((c.toNat : Int) - 48) = (c.toNat : Int) - 48 := wrap_i64 (by omega) (by omega)
     have htk : s.take (i + 1) = s.take i ++ [c] := by rw [List.take_add_one, hc]; rfl
     refine kS ?_;refine wc_seq ?_;refine wc_block ?_;refine sR ?_;iterate 2 refine rC ?_
     refine rQ (index_s (l := s) (m := i) tab_ok rfl rfl rfl hc) ?_;refine rQ (conv_int (m := (c.toNat : Int)) tab_ok rfl rfl rfl hw32) ?_;refine rQ (sub_int tab_ok rfl rfl hw33) ?_
     refine rC ?_;refine nQ ?_;refine sR ?_;iterate 3 refine rC ?_
     by_cases k1 : c.toNat < 48
     ·have e1 : decide ((c.toNat : Int) - 48 < 0) = true := dT (by omega)
      have hRn : intR s = none := by
       rw [hR, if_pos]
       rw [List.all_eq_false]
       exact ⟨c, List.mem_of_getElem? hc, by simp [isDig]; omega⟩
      rw [hRn]
      iterate 2 refine rS ?_
      refine rQ iT ?_;refine nS ?_;refine wV ?_;refine sR ?_;iterate 2 refine rC ?_
      refine nS ?_;refine wc_ret ?_;refine seq_r ?_;refine blk_r ?_;refine seq_r ?_;refine loop_r ?_;refine blk_r ?_;refine seq_r ?_
      exact ⟨trivial, [], lf⟩
     ·have e1 : decide ((c.toNat : Int) - 48 < 0) = false := dF (by omega)
      refine rO ?_;refine rC ?_;refine rO ?_;refine rC ?_;refine rQ iF ?_;refine nS ?_
      by_cases k2 : 57 < c.toNat
      ·have e2 : decide (9 < (c.toNat : Int) - 48) = true := dT (by omega)
       have hRn : intR s = none := by
        rw [hR, if_pos]
        rw [List.all_eq_false]
        exact ⟨c, List.mem_of_getElem? hc, by simp [isDig]; omega⟩
       rw [hRn]
       refine wT ?_;refine sR ?_;iterate 2 refine rC ?_
       refine nS ?_;refine wc_ret ?_;refine seq_r ?_;refine blk_r ?_;refine seq_r ?_;refine loop_r ?_;refine blk_r ?_;refine seq_r ?_
       exact ⟨trivial, [], lf⟩
      ·have e2 : decide (9 < (c.toNat : Int) - 48) = false := dF (by omega)
       have hst : (s.take (i + 1)).foldl (intStep 1) 0 = intStep 1 ((s.take i).foldl (intStep 1) 0) c := by rw [htk, List.foldl_append]; rfl
       refine wF ?_;refine kS ?_;refine wc_region ?_;refine rC ?_;refine rQ (mul_int tab_ok rfl rfl rfl) ?_;iterate 2 refine rC ?_
       refine rQ (mul_int tab_ok rfl rfl rfl) ?_;refine rQ (add_int tab_ok rfl rfl rfl) ?_;refine rC ?_;refine reg_nil ?_;refine blk_n ?_;refine seq_n ?_;refine wc_region ?_
       refine rC ?_;refine rQ iD ?_;refine rC ?_;refine reg_nil ?_
       exact loop_n (i + 1) [] ⟨hlt, by rw [htk, List.all_append, hall]; simp [isDig]; omega⟩ (by omega) (.of rfl rfl rfl rfl rfl ⟨⟨_, rfl, .refl _⟩, rfl, ⟨_, rfl, .refl _⟩, rfl, ⟨_, rfl, .refl _⟩, rfl, ⟨_, rfl, AVLe.of_eq (by rw [hst]; rfl)⟩, rfl, ⟨_, rfl, .refl _⟩, rfl, trivial⟩ trivial)
    ·have he : i = s.length := by have := of_decide_eq_false h3; omega
     subst he
     rw [List.take_length] at hall ⊢
     rw [if_neg (by rw [hall]; decide)] at hR
     rw [← hV]
     obtain ⟨hn0, hn1⟩ : -9223372036854775808 ≤ intV s ∧ intV s ≤ 9223372036854775807 := by rw [hV]; exact fold_in _ _ _ ⟨by decide, by decide⟩
     refine wc_exit ?_;refine seq_x ?_;refine loop_x ?_;refine blk_x ?_;refine seq_n ?_;refine qR ?_;refine rC ?_;refine rQ (call_r (number_is _ hn0 hn1) rfl rfl (arg_e arg_nil) (.inl rfl) (fun _ => rfl)) ?_
     refine rC ?_;refine rQ (neq_s (a := Lib.itoa (intV s)) (b := s) tab_ok rfl rfl rfl) ?_;refine nS ?_
     by_cases hq : Lib.itoa (intV s) = s
     ·have e3 : (!decide (Lib.itoa (intV s) = s)) = false := by rw [dT hq]; rfl
      rw [if_pos hq] at hR
      rw [hR]
      refine wF ?_;refine kS ?_;refine sR ?_;iterate 3 refine rC ?_
      refine nS ?_;refine wc_ret ?_
      exact ⟨trivial, [], lf⟩
     ·have e3 : (!decide (Lib.itoa (intV s) = s)) = true := by rw [dF hq]; rfl
      rw [if_neg hq] at hR
      rw [hR]
      refine wT ?_;refine sR ?_;iterate 2 refine rC ?_
      refine nS ?_;refine wc_ret ?_;refine seq_r ?_
      exact ⟨trivial, [], lf⟩
  ·have hd0 : decide (0 < (s.length : Int)) = false := dF (by omega)
   have hdv : dg = s := by rw [← hdg, digOf, if_neg hm]
   have hsgv : sg = 1 := by rw [← hsg, sgOf, if_neg hm]
   clear hm hdg hsg
   subst sg
   subst dg
   iterate 3 refine rS ?_
   refine rQ iF ?_;refine nS ?_;refine wG ?_;refine kS ?_;refine qR ?_;refine rC ?_;refine rQ (len_s tab_ok rfl rfl) ?_;refine rC ?_;refine nS ?_
   by_cases h19 : 19 < s.length
   ·have hd19 : decide (19 < (s.length : Int)) = true := dT (by omega)
    have hRn : intR s = none := by rw [hR, if_pos h19]
    rw [hRn]
    refine wT ?_;refine sR ?_;iterate 2 refine rC ?_
    refine nS ?_;refine wc_ret ?_;refine seq_r ?_
    exact ⟨trivial, [], lf⟩
   ·have hd19 : decide (19 < (s.length : Int)) = false := dF (by omega)
    rw [if_neg h19] at hR
    refine wF ?_;refine kS ?_;refine qR ?_;refine rC ?_;refine nS ?_;refine wc_block ?_
    refine wc_inv (fun i : Nat => ⟨[(7, .int .i64 i), (6, .d (strD s)), (5, .int .i64 1), (4, .int .i64 ((s.take i).foldl (intStep 1) 0)), (0, .d (strD s))], [], 72, Tryz.f112.ntmps, 64⟩) (fun i => i ≤ s.length ∧ (s.take i).all isDig = true) (fun i => s.length - i) 0 [] ⟨Nat.zero_le _, by simp⟩
     (.of rfl rfl rfl rfl rfl ⟨⟨_, rfl, .refl _⟩, rfl, ⟨_, rfl, .refl _⟩, rfl, ⟨_, rfl, .refl _⟩, rfl, ⟨_, rfl, .refl _⟩, rfl, ⟨_, rfl, .refl _⟩, rfl, trivial⟩ trivial) ?_
    intro i hi
    obtain ⟨hi, hall⟩ := hi
    refine wc_of ?_;refine qR ?_;iterate 2 refine rC ?_
    refine rQ (len_s tab_ok rfl rfl) ?_;refine rC ?_;refine nS ?_
    refine wc_cond rfl (fun h3 => ?_) (fun h3 => ?_)
    ·have hlt : i < s.length := by have := of_decide_eq_true h3; omega
     obtain ⟨c, hc⟩ : ∃ c, s[i]? = some c := ⟨_, List.getElem?_eq_getElem hlt⟩
     have hcb := c.toNat_lt
     have hw32 : IntKind.i64.wrap (c.toNat : Int) = (c.toNat : Int) := wrap_i64 (by omega) (by omega)
     have hw33 : IntKind.i64.wrap ((c.toNat : Int) - 48) = (c.toNat : Int) - 48 := wrap_i64 (by omega) (by omega)
     have htk : s.take (i + 1) = s.take i ++ [c] := by rw [List.take_add_one, hc]; rfl
     refine kS ?_;refine wc_seq ?_;refine wc_block ?_;refine sR ?_;iterate 2 refine rC ?_
     refine rQ (index_s (l := s) (m := i) tab_ok rfl rfl rfl hc) ?_;refine rQ (conv_int (m := (c.toNat : Int)) tab_ok rfl rfl rfl hw32) ?_;refine rQ (sub_int tab_ok rfl rfl hw33) ?_
     refine rC ?_;refine nQ ?_;refine sR ?_;iterate 3 refine rC ?_
     by_cases k1 : c.toNat < 48
     ·have e1 : decide ((c.toNat : Int) - 48 < 0) = true := dT (by omega)
      have hRn : intR s = none := by
       rw [hR, if_pos]
       rw [List.all_eq_false]
       exact ⟨c, List.mem_of_getElem? hc, by simp [isDig]; omega⟩
      rw [hRn]
      iterate 2 refine rS ?_
      refine rQ iT ?_;refine nS ?_;refine wV ?_;refine sR ?_;iterate 2 refine rC ?_
      refine nS ?_;refine wc_ret ?_;refine seq_r ?_;refine blk_r ?_;refine seq_r ?_;refine loop_r ?_;refine blk_r ?_;refine seq_r ?_
      exact ⟨trivial, [], lf⟩
     ·have e1 : decide ((c.toNat : Int) - 48 < 0) = false := dF (by omega)
      refine rO ?_;refine rC ?_;refine rO ?_;refine rC ?_;refine rQ iF ?_;refine nS ?_
      by_cases k2 : 57 < c.toNat
      ·have e2 : decide (9 < (c.toNat : Int) - 48) = true := dT (by omega)
       have hRn : intR s = none := by
        rw [hR, if_pos]
        rw [List.all_eq_false]
        exact ⟨c, List.mem_of_getElem? hc, by simp [isDig]; omega⟩
       rw [hRn]
       refine wT ?_;refine sR ?_;iterate 2 refine rC ?_
       refine nS ?_;refine wc_ret ?_;refine seq_r ?_;refine blk_r ?_;refine seq_r ?_;refine loop_r ?_;refine blk_r ?_;refine seq_r ?_
       exact ⟨trivial, [], lf⟩
      ·have e2 : decide (9 < (c.toNat : Int) - 48) = false := dF (by omega)
       have hst : (s.take (i + 1)).foldl (intStep 1) 0 = intStep 1 ((s.take i).foldl (intStep 1) 0) c := by rw [htk, List.foldl_append]; rfl
       refine wF ?_;refine kS ?_;refine wc_region ?_;refine rC ?_;refine rQ (mul_int tab_ok rfl rfl rfl) ?_;iterate 2 refine rC ?_
       refine rQ (mul_int tab_ok rfl rfl rfl) ?_;refine rQ (add_int tab_ok rfl rfl rfl) ?_;refine rC ?_;refine reg_nil ?_;refine blk_n ?_;refine seq_n ?_;refine wc_region ?_
       refine rC ?_;refine rQ iD ?_;refine rC ?_;refine reg_nil ?_
       exact loop_n (i + 1) [] ⟨hlt, by rw [htk, List.all_append, hall]; simp [isDig]; omega⟩ (by omega) (.of rfl rfl rfl rfl rfl ⟨⟨_, rfl, .refl _⟩, rfl, ⟨_, rfl, .refl _⟩, rfl, ⟨_, rfl, .refl _⟩, rfl, ⟨_, rfl, AVLe.of_eq (by rw [hst]; rfl)⟩, rfl, ⟨_, rfl, .refl _⟩, rfl, trivial⟩ trivial)
    ·have he : i = s.length := by have := of_decide_eq_false h3; omega
     subst he
     rw [List.take_length] at hall ⊢
     rw [if_neg (by rw [hall]; decide)] at hR
     rw [← hV]
     obtain ⟨hn0, hn1⟩ : -9223372036854775808 ≤ intV s ∧ intV s ≤ 9223372036854775807 := by rw [hV]; exact fold_in _ _ _ ⟨by decide, by decide⟩
     refine wc_exit ?_;refine seq_x ?_;refine loop_x ?_;refine blk_x ?_;refine seq_n ?_;refine qR ?_;refine rC ?_;refine rQ (call_r (number_is _ hn0 hn1) rfl rfl (arg_e arg_nil) (.inl rfl) (fun _ => rfl)) ?_
     refine rC ?_;refine rQ (neq_s (a := Lib.itoa (intV s)) (b := s) tab_ok rfl rfl rfl) ?_;refine nS ?_
     by_cases hq : Lib.itoa (intV s) = s
     ·have e3 : (!decide (Lib.itoa (intV s) = s)) = false := by rw [dT hq]; rfl
      rw [if_pos hq] at hR
      rw [hR]
      refine wF ?_;refine kS ?_;refine sR ?_;iterate 3 refine rC ?_
      refine nS ?_;refine wc_ret ?_
      exact ⟨trivial, [], lf⟩
     ·have e3 : (!decide (Lib.itoa (intV s) = s)) = true := by rw [dF hq]; rfl
      rw [if_neg hq] at hR
      rw [hR]
      refine wT ?_;refine sR ?_;iterate 2 refine rC ?_
      refine nS ?_;refine wc_ret ?_;refine seq_r ?_
      exact ⟨trivial, [], lf⟩
theorem dig_all : ∀ n, n < 256 → (if 48 ≤ n ∧ n ≤ 57 then (Lib.indexByte hexD n.toUInt8 = ((n - 48 : Nat) : Int)) else if 97 ≤ n ∧ n ≤ 102 then Lib.indexByte hexD n.toUInt8 = ((n - 87 : Nat) : Int) else Lib.indexByte hexD n.toUInt8 = -1) := by decide +kernel
theorem dig_num {c : UInt8} (h1 : 48 ≤ c.toNat) (h2 : c.toNat ≤ 57) : Lib.indexByte hexD c = ((c.toNat - 48 : Nat) : Int) := by
 have := dig_all c.toNat c.toNat_lt
 rw [if_pos ⟨h1, h2⟩] at this
 simpa using this
theorem dig_let {c : UInt8} (h1 : 97 ≤ c.toNat) (h2 : c.toNat ≤ 102) : Lib.indexByte hexD c = ((c.toNat - 87 : Nat) : Int) := by
 have := dig_all c.toNat c.toNat_lt
 rw [if_neg (by omega), if_pos ⟨h1, h2⟩] at this
 simpa using this
theorem dig_bad {c : UInt8} (h1 : ¬ (48 ≤ c.toNat ∧ c.toNat ≤ 57)) (h2 : ¬ (97 ≤ c.toNat ∧ c.toNat ≤ 102)) : Lib.indexByte hexD c < 0 := by
 have := dig_all c.toNat c.toNat_lt
 rw [if_neg h1, if_neg h2] at this
 have e : Lib.indexByte hexD c = -1 := by simpa using this
 omega
theorem pv_two : ∀ (l : List UInt8) (a b : UInt8), l.length % 2 = 0 → pairsV (l ++ [a, b]) = pairsV l ++ [((nibV a * 16 + nibV b : Nat) : Int)]
 | [], a, b, _ => by simp [pairsV]
 | [_], _, _, h => by simp at h
 | x :: y :: l, a, b, h => by
  have := pv_two l a b (by simp only [List.length_cons] at h; omega)
  simp only [List.cons_append, pairsV, this]
def nV (l : List UInt8) : Nat := l.foldl (fun n c => n * 16 + nibV c) 0
theorem nV_snoc (l : List UInt8) (c : UInt8) : nV (l ++ [c]) = nV l * 16 + nibV c := by simp [nV]
abbrev byR (o : Option (List UInt8)) : AV := .tup (.acons (.d (encB (o.getD []))) (.acons (.int .i64 (o1 o)) .anil))
theorem byR_nil : AVLe (.tup (.acons (.d (.sc nil_)) (.acons (.int .i64 0) .anil))) (byR none) := AVLe.tup1 (nil_arr _ _) rfl
theorem rbytes_is (s : List UInt8) (hl : s.length ≤ 1048575) : FnIs Tryz.prog 114 [.d (strD s)] [] (byR (unhexP s)) [] := by
 refine fnIs_of tab_ok Tryz.func114 rfl rfl rfl ?_;refine sR ?_;iterate 2 refine rC ?_
 refine nQ ?_;refine sR ?_;refine rC ?_;refine rQ (eql_s (a := s) (b := [45]) tab_ok rfl rfl rfl) ?_;refine nS ?_
 by_cases h45 : s = [45]
 ·have hd : decide (s = [45]) = true := dT h45
  have hu : unhexP s = some [] := by rw [unhexP, if_pos h45]
  rw [hu]
  refine wT ?_;refine sR ?_;iterate 2 refine rC ?_
  refine nS ?_;refine wc_ret ?_;refine seq_r ?_
  exact ⟨trivial, [], .of rfl rfl rfl rfl rfl ⟨⟨_, rfl, AVLe.tup1 (nil_arr _ _) rfl⟩, rfl, trivial⟩ trivial⟩
 have hd : decide (s = [45]) = false := dF h45
 refine wF ?_;refine kS ?_;refine sR ?_;refine rC ?_;refine nQ ?_;refine sR ?_;refine rC ?_;refine nS ?_;refine wc_block ?_
 refine wc_inv (fun j : Nat => ⟨[(5, .int .i64 ((2 * j : Nat) : Int)), (4, .own 65 0 (pairsV (s.take (2 * j))).length 1 none), (0, .d (strD s))], [(65, some (.ds 5 1 false encU8 (pairsV (s.take (2 * j)))))], 72, Tryz.f114.ntmps, 64⟩) (fun j => 2 * j ≤ s.length ∧ ∀ c ∈ s.take (2 * j), 0 ≤ Lib.indexByte hexD c) (fun j => s.length - 2 * j) 0 [(65, none)] ⟨Nat.zero_le _, by simp⟩
  (.of rfl rfl rfl rfl rfl ⟨⟨_, rfl, .refl _⟩, rfl, ⟨_, rfl, .refl _⟩, rfl, ⟨_, rfl, .refl _⟩, rfl, trivial⟩ ⟨⟨rfl, rfl, rfl⟩, trivial⟩) ?_
 intro j hj
 obtain ⟨hj, hdig⟩ := hj
 have hw13 : IntKind.i64.wrap (((2 * j : Nat) : Int) + 1) = ((2 * j + 1 : Nat) : Int) := by rw [wrap_i64 (by omega) (by omega)]; omega
 refine wc_of ?_;refine qR ?_;refine rC ?_;refine rQ (add_int (m := ((2 * j + 1 : Nat) : Int)) tab_ok rfl rfl hw13) ?_;refine rC ?_;refine rQ (len_s tab_ok rfl rfl) ?_
 refine rC ?_;refine nS ?_
 refine wc_cond rfl (fun h3 => ?_) (fun h3 => ?_)
 ·have hlt : 2 * j + 1 < s.length := by have := of_decide_eq_true h3; omega
  clear hd h45 h3
  refine kS ?_;refine wc_seq ?_;refine wc_block ?_;refine sR ?_;refine rC ?_;refine nQ ?_;refine sR ?_;refine rC ?_;refine nS ?_;refine wc_block ?_
  refine wc_inv (fun k : Nat => ⟨[(7, .int .i64 k), (6, .int .i64 ((nV ((s.drop (2 * j)).take k) : Nat) : Int)), (5, .int .i64 ((2 * j : Nat) : Int)), (4, .own 65 0 (pairsV (s.take (2 * j))).length 1 none), (0, .d (strD s))], [(65, some (.ds 5 1 false encU8 (pairsV (s.take (2 * j)))))], 72, Tryz.f114.ntmps, 64⟩) (fun k => k ≤ 2 ∧ (∀ c ∈ (s.drop (2 * j)).take k, 0 ≤ Lib.indexByte hexD c) ∧ (k = 0 ∧ nV ((s.drop (2 * j)).take k) = 0 ∨ k = 1 ∧ nV ((s.drop (2 * j)).take k) ≤ 15 ∨ k = 2 ∧ nV ((s.drop (2 * j)).take k) ≤ 255)) (fun k => 2 - k) 0 [] ⟨Nat.zero_le _, by simp, .inl ⟨rfl, rfl⟩⟩
   (.of rfl rfl rfl rfl rfl ⟨⟨_, rfl, .refl _⟩, rfl, ⟨_, rfl, .refl _⟩, rfl, ⟨_, rfl, .refl _⟩, rfl, ⟨_, rfl, .refl _⟩, rfl, ⟨_, rfl, .refl _⟩, rfl, trivial⟩ ⟨⟨rfl, rfl, _, rfl, .refl _⟩, trivial⟩) ?_
  intro k hk
  obtain ⟨hk, hkd, hkn⟩ := hk
  refine wc_of ?_;refine qR ?_;iterate 2 refine rC ?_
  refine nS ?_
  refine wc_cond rfl (fun h4 => ?_) (fun h4 => ?_)
  ·have hk2 : k < 2 := by have := of_decide_eq_true h4; omega
   clear h4
   obtain ⟨c, hc⟩ : ∃ c, s[2 * j + k]? = some c := ⟨_, List.getElem?_eq_getElem (by omega)⟩
   have hcb := c.toNat_lt
   have hw26 : IntKind.i64.wrap (((2 * j : Nat) : Int) + (k : Int)) = ((2 * j + k : Nat) : Int) := by rw [wrap_i64 (by omega) (by omega)]; omega
   have hw28 : IntKind.i64.wrap (c.toNat : Int) = (c.toNat : Int) := wrap_i64 (by omega) (by omega)
   have hw30 : IntKind.i64.wrap ((c.toNat : Int) - 48) = (c.toNat : Int) - 48 := wrap_i64 (by omega) (by omega)
   have htk : (s.drop (2 * j)).take (k + 1) = (s.drop (2 * j)).take k ++ [c] := by rw [List.take_add_one, List.getElem?_drop, hc]; rfl
   have hn16 := nibV_lt c
   have hw47 : IntKind.i64.wrap (((nV ((s.drop (2 * j)).take k) : Nat) : Int) * 16) = ((nV ((s.drop (2 * j)).take k) * 16 : Nat) : Int) := by rw [wrap_i64 (by omega) (by omega)]; omega
   have hst : nV ((s.drop (2 * j)).take (k + 1)) = nV ((s.drop (2 * j)).take k) * 16 + nibV c := by rw [htk, nV_snoc]
   have hbad : Lib.indexByte hexD c < 0 → unhexP s = none := fun h => by
    rw [unhexP, if_neg (by intro e; rw [e] at hlt; simp at hlt), if_neg (by intro e; rw [e] at hlt; simp at hlt), pairs_bad s c (List.mem_of_getElem? hc) h]
   refine kS ?_;refine wc_seq ?_;refine wc_block ?_;refine sR ?_;iterate 3 refine rC ?_
   refine rQ (add_int (m := ((2 * j + k : Nat) : Int)) tab_ok rfl rfl hw26) ?_;refine rQ (index_s (l := s) (m := 2 * j + k) tab_ok rfl rfl rfl hc) ?_;refine rQ (conv_int (m := (c.toNat : Int)) tab_ok rfl rfl rfl hw28) ?_
   refine rC ?_;refine nR ?_;refine rC ?_;refine rQ (sub_int tab_ok rfl rfl hw30) ?_;refine rC ?_;refine nQ ?_;refine sR ?_;iterate 3 refine rC ?_
   by_cases q1 : 97 ≤ c.toNat
   ·have e1 : decide ((97 : Int) ≤ (c.toNat : Int)) = true := dT (by omega)
    refine rO ?_;refine rC ?_;refine rO ?_;refine rC ?_;refine rQ iT ?_;refine nS ?_
    by_cases q2 : c.toNat ≤ 102
    ·have e2 : decide ((c.toNat : Int) ≤ 102) = true := dT (by omega)
     have hx := dig_let q1 q2
     have hnv : nibV c = c.toNat - 87 := by rw [nibV, hx]; omega
     have hw38 : IntKind.i64.wrap ((c.toNat : Int) - 97) = (c.toNat : Int) - 97 := wrap_i64 (by omega) (by omega)
     have hw39 : IntKind.i64.wrap ((c.toNat : Int) - 97 + 10) = (nibV c : Int) := by rw [wrap_i64 (by omega) (by omega)]; omega
     have hix : 0 ≤ Lib.indexByte hexD c := by rw [hx]; omega
     have hw49 : IntKind.i64.wrap (((nV ((s.drop (2 * j)).take k) * 16 : Nat) : Int) + (nibV c : Int)) = ((nV ((s.drop (2 * j)).take (k + 1)) : Nat) : Int) := by rw [wrap_i64 (by omega) (by omega)]; omega
     clear hbad
     refine wT ?_;refine wc_region ?_;refine rC ?_;refine rQ (sub_int tab_ok rfl rfl hw38) ?_;refine rQ (add_int (m := (nibV c : Int)) tab_ok rfl rfl hw39) ?_;refine rC ?_
     refine nS ?_;refine wc_region ?_;refine rC ?_;refine rQ (mul_int (m := ((nV ((s.drop (2 * j)).take k) * 16 : Nat) : Int)) tab_ok rfl rfl hw47) ?_;refine rC ?_;refine rQ (add_int (m := ((nV ((s.drop (2 * j)).take (k + 1)) : Nat) : Int)) tab_ok rfl rfl hw49) ?_
     refine rC ?_;refine reg_nil ?_;refine blk_n ?_;refine seq_n ?_;refine wc_region ?_;refine rC ?_;refine rQ iD ?_;refine rC ?_;refine reg_nil ?_
     exact loop_n (k + 1) [] ⟨hk2, fun b hb => by rw [htk] at hb; rcases List.mem_append.1 hb with hb | hb; exact hkd b hb; rw [show b = c by simpa using hb]; exact hix, by omega⟩ (by omega) (.of rfl rfl rfl rfl rfl ⟨⟨_, rfl, .refl _⟩, rfl, ⟨_, rfl, .refl _⟩, rfl, ⟨_, rfl, .refl _⟩, rfl, ⟨_, rfl, .refl _⟩, rfl, ⟨_, rfl, .refl _⟩, rfl, trivial⟩ ⟨⟨rfl, rfl, _, rfl, .refl _⟩, trivial⟩)
    ·have e2 : decide ((c.toNat : Int) ≤ 102) = false := dF (by omega)
     have e3 : decide ((c.toNat : Int) < 48) = false := dF (by omega)
     have e4 : decide (57 < (c.toNat : Int)) = true := dT (by omega)
     have hu := hbad (dig_bad (by omega) (by omega))
     rw [hu]
     refine wF ?_;refine sR ?_;iterate 3 refine rC ?_
     refine rO ?_;refine rC ?_;refine rO ?_;refine rC ?_;refine rQ iF ?_;refine nS ?_;refine wT ?_;refine sR ?_;iterate 2 refine rC ?_
     refine nS ?_;refine wc_ret ?_;refine seq_r ?_;refine blk_r ?_;refine seq_r ?_;refine loop_r ?_;refine blk_r ?_;refine seq_r ?_;refine blk_r ?_;refine seq_r ?_;refine loop_r ?_
     refine blk_r ?_;refine seq_r ?_
     exact ⟨trivial, [], .of rfl rfl rfl rfl rfl ⟨⟨_, rfl, byR_nil⟩, rfl, trivial⟩ trivial⟩
   ·have e1 : decide ((97 : Int) ≤ (c.toNat : Int)) = false := dF (by omega)
    iterate 2 refine rS ?_
    refine rQ iF ?_;refine nS ?_;refine wG ?_;refine sR ?_;iterate 3 refine rC ?_
    by_cases q3 : c.toNat < 48
    ·have e3 : decide ((c.toNat : Int) < 48) = true := dT (by omega)
     have hu := hbad (dig_bad (by omega) (by omega))
     rw [hu]
     iterate 2 refine rS ?_
     refine rQ iT ?_;refine nS ?_;refine wV ?_;refine sR ?_;iterate 2 refine rC ?_
     refine nS ?_;refine wc_ret ?_;refine seq_r ?_;refine blk_r ?_;refine seq_r ?_;refine loop_r ?_;refine blk_r ?_;refine seq_r ?_;refine blk_r ?_;refine seq_r ?_;refine loop_r ?_
     refine blk_r ?_;refine seq_r ?_
     exact ⟨trivial, [], .of rfl rfl rfl rfl rfl ⟨⟨_, rfl, byR_nil⟩, rfl, trivial⟩ trivial⟩
    ·have e3 : decide ((c.toNat : Int) < 48) = false := dF (by omega)
     refine rO ?_;refine rC ?_;refine rO ?_;refine rC ?_;refine rQ iF ?_;refine nS ?_
     by_cases q4 : 57 < c.toNat
     ·have e4 : decide (57 < (c.toNat : Int)) = true := dT (by omega)
      have hu := hbad (dig_bad (by omega) (by omega))
      rw [hu]
      refine wT ?_;refine sR ?_;iterate 2 refine rC ?_
      refine nS ?_;refine wc_ret ?_;refine seq_r ?_;refine blk_r ?_;refine seq_r ?_;refine loop_r ?_;refine blk_r ?_;refine seq_r ?_;refine blk_r ?_;refine seq_r ?_;refine loop_r ?_
      refine blk_r ?_;refine seq_r ?_
      exact ⟨trivial, [], .of rfl rfl rfl rfl rfl ⟨⟨_, rfl, byR_nil⟩, rfl, trivial⟩ trivial⟩
     ·have e4 : decide (57 < (c.toNat : Int)) = false := dF (by omega)
      have hx := dig_num (c := c) (by omega) (by omega)
      have hnv : nibV c = c.toNat - 48 := by rw [nibV, hx]; omega
      have hix : 0 ≤ Lib.indexByte hexD c := by rw [hx]; omega
      have hw49 : IntKind.i64.wrap (((nV ((s.drop (2 * j)).take k) * 16 : Nat) : Int) + ((c.toNat : Int) - 48)) = ((nV ((s.drop (2 * j)).take (k + 1)) : Nat) : Int) := by rw [wrap_i64 (by omega) (by omega)]; omega
      clear hbad
      refine wF ?_;refine kS ?_;refine wc_region ?_;refine rC ?_;refine rQ (mul_int (m := ((nV ((s.drop (2 * j)).take k) * 16 : Nat) : Int)) tab_ok rfl rfl hw47) ?_;refine rC ?_
      refine rQ (add_int (m := ((nV ((s.drop (2 * j)).take (k + 1)) : Nat) : Int)) tab_ok rfl rfl hw49) ?_;refine rC ?_;refine reg_nil ?_;refine blk_n ?_;refine seq_n ?_
      refine wc_region ?_;refine rC ?_;refine rQ iD ?_;refine rC ?_;refine reg_nil ?_
      exact loop_n (k + 1) [] ⟨hk2, fun b hb => by rw [htk] at hb; rcases List.mem_append.1 hb with hb | hb; exact hkd b hb; rw [show b = c by simpa using hb]; exact hix, by omega⟩ (by omega) (.of rfl rfl rfl rfl rfl ⟨⟨_, rfl, .refl _⟩, rfl, ⟨_, rfl, .refl _⟩, rfl, ⟨_, rfl, .refl _⟩, rfl, ⟨_, rfl, .refl _⟩, rfl, ⟨_, rfl, .refl _⟩, rfl, trivial⟩ ⟨⟨rfl, rfl, _, rfl, .refl _⟩, trivial⟩)
  ·have he : k = 2 := by have := of_decide_eq_false h4; omega
   subst he
   clear h4
   have hn255 : nV ((s.drop (2 * j)).take 2) ≤ 255 := by omega
   have hw52 : IntKind.u8.wrap ((nV ((s.drop (2 * j)).take 2) : Nat) : Int) = ((nV ((s.drop (2 * j)).take 2) : Nat) : Int) := wrap_u8n (by omega)
   have hw18 : IntKind.i64.wrap (((2 * j : Nat) : Int) + 2) = ((2 * (j + 1) : Nat) : Int) := by rw [wrap_i64 (by omega) (by omega)]; omega
   obtain ⟨a, ha⟩ : ∃ a, s[2 * j]? = some a := ⟨_, List.getElem?_eq_getElem (by omega)⟩
   obtain ⟨b, hb⟩ : ∃ b, s[2 * j + 1]? = some b := ⟨_, List.getElem?_eq_getElem (by omega)⟩
   have hab : (s.drop (2 * j)).take 2 = [a, b] := by
    rw [show (2 : Nat) = 0 + 1 + 1 from rfl, List.take_add_one, List.take_add_one, List.getElem?_drop, List.getElem?_drop]
    simp [ha, hb]
   have htk2 : s.take (2 * (j + 1)) = s.take (2 * j) ++ [a, b] := by
    rw [show 2 * (j + 1) = 2 * j + 1 + 1 by omega, List.take_add_one, List.take_add_one, ha, hb]
    simp
   have hpl : (s.take (2 * j)).length = 2 * j := by rw [List.length_take]; omega
   have hrow : pairsV (s.take (2 * (j + 1))) = pairsV (s.take (2 * j)) ++ [((nV ((s.drop (2 * j)).take 2) : Nat) : Int)] := by
    rw [htk2, pv_two _ _ _ (by omega), hab]
    simp [nV]
   have hlq : (pairsV (s.take (2 * (j + 1)))).length = (pairsV (s.take (2 * j))).length + 1 := by rw [hrow]; simp
   have hA : (pairsV (s.take (2 * j))).length + 1 ≤ 1048576 := by rw [pv_len, hpl]; omega
   rw [hab] at hkd
   refine wc_exit ?_;refine seq_x ?_;refine loop_x ?_;refine blk_x ?_;refine seq_n ?_;refine wc_region ?_;iterate 2 refine rC ?_
   refine rQ (conv_int (m := ((nV ((s.drop (2 * j)).take 2) : Nat) : Int)) tab_ok rfl rfl rfl hw52) ?_;refine reg_new (build_slice (s := 1) tab_ok rfl rfl rfl rfl rfl rfl rfl rfl) rfl ?_
   refine reg_new2 (append_one (xs := pairsV (s.take (2 * j))) (s := 1) (enc := encU8) tab_ok ((nV ((s.drop (2 * j)).take 2) : Nat) : Int) rfl rfl rfl rfl rfl rfl rfl rfl rfl hA rfl) rfl ?_
   refine rC ?_;refine reg_nil ?_;refine blk_n ?_;refine seq_n ?_;refine wc_region ?_;refine rC ?_;refine rQ (add_int (m := ((2 * (j + 1) : Nat) : Int)) tab_ok rfl rfl hw18) ?_
   refine rC ?_;refine reg_nil ?_
   exact loop_n (j + 1) [(65, some 120)] ⟨by omega, fun c hc => by rw [htk2] at hc; rcases List.mem_append.1 hc with hc | hc; exact hdig c hc; exact hkd c hc⟩ (by omega) (.of rfl rfl rfl rfl rfl ⟨⟨_, rfl, .refl _⟩, rfl, ⟨_, rfl, AVLe.of_eq (by rw [hlq]; rfl)⟩, rfl, ⟨_, rfl, .refl _⟩, rfl, trivial⟩ ⟨⟨rfl, rfl, _, rfl, RowLe.of_eq (by rw [hrow]; rfl)⟩, trivial⟩)
 ·have hge : s.length ≤ 2 * j + 1 := by have := of_decide_eq_false h3; omega
  clear h3 hd
  refine wc_freeze (env' := [(4, _), (0, _)]) (h' := []) 65 _ rfl ⟨⟨_, rfl, Frz.own rfl⟩, ⟨_, rfl, .refl _⟩, trivial⟩ trivial ?_;refine wc_exit ?_;refine seq_x ?_
  refine loop_x ?_;refine blk_x ?_;refine seq_n ?_;refine qR ?_;refine rC ?_;refine rQ (len_s tab_ok rfl rfl) ?_;iterate 2 refine rC ?_
  by_cases hz : s.length = 0
  ·have hd0 : decide ((s.length : Int) = 0) = true := dT (by omega)
   have hu : unhexP s = none := by rw [List.eq_nil_of_length_eq_zero hz]; rfl
   rw [hu]
   iterate 4 refine rS ?_
   refine rQ iT ?_;refine nS ?_;refine wV ?_;refine sR ?_;iterate 2 refine rC ?_
   refine nS ?_;refine wc_ret ?_;refine seq_r ?_
   exact ⟨trivial, [], .of rfl rfl rfl rfl rfl ⟨⟨_, rfl, byR_nil⟩, rfl, trivial⟩ trivial⟩
  ·have hd0 : decide ((s.length : Int) = 0) = false := dF (by omega)
   have hne : s ≠ [] := fun e => hz (by rw [e]; rfl)
   refine rO ?_;refine rC ?_;refine rO ?_;refine rQ (len_s tab_ok rfl rfl) ?_;refine rO ?_;refine rQ (rem_int tab_ok rfl rfl (by decide)) ?_;refine rO ?_;refine rC ?_
   refine rQ iF ?_;refine nS ?_
   by_cases hodd : s.length % 2 = 1
   ·have hd1 : decide (0 < (s.length : Int).tmod 2) = true := dT (by rw [show (s.length : Int).tmod 2 = ((s.length % 2 : Nat) : Int) from rfl]; omega)
    have hu : unhexP s = none := by rw [unhexP, if_neg h45, if_neg hne, pairs_odd s hodd]
    rw [hu]
    refine wT ?_;refine sR ?_;iterate 2 refine rC ?_
    refine nS ?_;refine wc_ret ?_;refine seq_r ?_
    exact ⟨trivial, [], .of rfl rfl rfl rfl rfl ⟨⟨_, rfl, byR_nil⟩, rfl, trivial⟩ trivial⟩
   ·have hd1 : decide (0 < (s.length : Int).tmod 2) = false := dF (by rw [show (s.length : Int).tmod 2 = ((s.length % 2 : Nat) : Int) from rfl]; omega)
    have hj2 : 2 * j = s.length := by omega
    rw [hj2, List.take_length] at hdig ⊢
    obtain ⟨t, h1, h2⟩ := pairs_some s (by omega) hdig
    have hu : unhexP s = some t := by rw [unhexP, if_neg h45, if_neg hne, h1]
    rw [hu]
    rw [← h2]
    refine wF ?_;refine kS ?_;refine sR ?_;iterate 3 refine rC ?_
    refine nS ?_;refine wc_ret ?_
    exact ⟨trivial, [], lf⟩
end Go.Proofs.YtmojbghcngdkpaaGreatDoor
