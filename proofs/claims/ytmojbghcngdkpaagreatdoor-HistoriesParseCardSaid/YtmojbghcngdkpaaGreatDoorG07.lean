/- Texts of the proof: H31, H32, HW, H33, HO. -/
import Derived.Test.YtmojbghcngdkpaaGreatDoorG06
import Derived.Test.YtmojbghcngdkpaaGreatDoorG05
import Derived.Test.YtmojbghcngdkpaaGreatDoorG03

set_option linter.unusedVariables false
set_option linter.unusedSimpArgs false
set_option linter.unusedSectionVars false

namespace Go.Proofs.YtmojbghcngdkpaaGreatDoor
open Go.Eng Go.Plain
set_option maxHeartbeats 8000000
set_option maxRecDepth 50000
set_option linter.unusedVariables false
attribute [local irreducible] WC RegS RegD SeqQ BlkQ ScoQ RegK CutK Sat SatN FnIs LoopQ StepIs OpIs
def encNE (x : HEv) : D := .cons (u8s x.kind) (.cons (i6 x.client) (.cons (.cons (u8s x.op.kind) (.cons (i6 x.op.index) (.cons (.sc (.slice none 0 0)) .nil))) (.cons (encBk x.value) (.cons (i6 x.err) .nil))))
theorem encNE_le {x : HEv} (h : x.op.data = []) : DLe (encNE x) (encEv x) := by
 obtain ⟨k, c, ⟨ok, oi, od⟩, v, e⟩ := x
 simp only at h
 subst h
 rintro w X cs ⟨c1, r1, rfl, h1, c2, r2, rfl, h2, c3, r3, rfl, h3, h4⟩
 refine ⟨c1, _, rfl, h1, c2, _, rfl, h2, c3, _, rfl, ?_, h4⟩
 obtain ⟨d1, q1, rfl, g1, d2, q2, rfl, g2, d3, q3, rfl, ⟨rfl, _⟩, rfl⟩ := h3
 exact ⟨d1, _, rfl, g1, d2, _, rfl, g2, [.slice none 0 0], [], rfl, .inl ⟨rfl, rfl⟩, rfl⟩
theorem encNE_arr {l : List HEv} (h : ∀ x ∈ l, x.op.data = []) : DLe (.arr 38 encNE l) (encH l) := dle_arr (g := id) (by simp) fun x hx => encNE_le (h x hx)
def b7 : List UInt8 := List.replicate 32 7
def sampleL : List HEv := [⟨1, 0, ⟨1, 1, []⟩, zBk, 0⟩, ⟨1, 1, ⟨3, 0, []⟩, zBk, 0⟩, ⟨2, 0, zOp, b7, 0⟩, ⟨3, 0, zOp, zBk, 0⟩, ⟨1, 0, ⟨1, 1, []⟩, zBk, 0⟩]
theorem sample_is : FnIs Tryz.prog 53 [] [] (.d (encH sampleL)) [] := by
 refine fnIs_of tab_ok Tryz.func53 rfl rfl rfl ?_;refine sR ?_;refine rC ?_;refine nR ?_;refine rQ iS ?_;refine rN ?_;refine rW ?_;refine nR ?_;refine rN ?_;refine nQ ?_
 refine sR ?_;refine rC ?_;refine nS ?_;refine wc_block ?_
 refine wc_inv (fun i : Nat => ⟨[(1, .ptr 64 []), (2, .ptr 65 []), (3, .int .i64 (i : Nat))], [(64, some (.box 50 (.d (.cons (u8s 1) (.cons (i6 1) (.cons (.sc (.slice none 0 0)) .nil)))))), (65, some (.box 52 (.d (.vec 32 1 encU8 (fillL 7 32 i)))))], 120, Tryz.f53.ntmps, 64⟩) (fun i => i ≤ 32) (fun i => 32 - i) 0 [(64, some _), (65, some _)] (Nat.zero_le _)
  (.of rfl rfl rfl rfl rfl ⟨⟨_, rfl, .refl _⟩, rfl, ⟨_, rfl, .refl _⟩, rfl, ⟨_, rfl, .refl _⟩, rfl, trivial⟩ ⟨⟨rfl, rfl, _, rfl, .refl _⟩, ⟨rfl, rfl, _, rfl, .refl _⟩, trivial⟩) ?_
 intro i hi
 refine wc_of ?_
 by_cases hlt : i < 32
 ·have c1 : decide ((i : Int) < 32) = true := dT (by omega)
  have hg : (fillL 7 32 i)[((i : Int)).toNat]? = some 0 := by rw [Int.toNat_natCast]; exact fillL_get hlt
  have hs := fillL_set (d := 7) hlt
  refine qR ?_;iterate 2 refine rC ?_
  refine nS ?_;refine wT ?_;refine kS ?_;refine wc_seq ?_;refine wc_block ?_;refine wc_region ?_;refine rC ?_;refine rQ (step_C tab_ok (fun K hk => ⟨by omega, by omega, hk⟩)) ?_
  refine reg_store (store_row tab_ok rfl rfl rfl ⟨_, ⟨_, ⟨rfl, _, (7 : Int), hg, ⟨rfl, rfl, rfl⟩, rfl⟩, rfl⟩, rfl⟩ rfl) ?_;refine reg_nil ?_;refine blk_n ?_;refine seq_n ?_
  refine wc_region ?_;refine rC ?_;refine rQ iD ?_;refine rC ?_;refine reg_nil ?_
  exact loop_n (i + 1) [(64, some 64), (65, some 65)] hlt (by omega) (.of rfl rfl rfl rfl rfl ⟨⟨_, rfl, .refl _⟩, rfl, ⟨_, rfl, .refl _⟩, rfl, ⟨_, rfl, .refl _⟩, rfl, trivial⟩ ⟨⟨rfl, rfl, _, rfl, .refl _⟩, ⟨rfl, rfl, _, rfl, RowLe.of_eq (congrArg (fun l => Row.box 52 (.d (.vec 32 1 encU8 l))) hs)⟩, trivial⟩)
 ·have c1 : decide ((i : Int) < 32) = false := dF (by omega)
  have he : i = 32 := by omega
  subst he
  have hE : fillL 7 32 32 = byI b7 := fillL_end 7 32
  rw [hE]
  refine qR ?_;iterate 2 refine rC ?_
  refine nS ?_;refine wG ?_;refine wc_exit ?_;refine seq_x ?_;refine loop_x ?_;refine blk_x ?_;refine seq_n ?_;refine sR ?_;refine rQ iM ?_;iterate 3 refine rQ iS ?_
  refine rQ iM ?_;iterate 2 refine rQ iS ?_
  refine rQ iM ?_;refine rQ iS ?_;refine rQ (StepIs.frozen (build_slice (s := 38) tab_ok rfl rfl rfl rfl rfl rfl rfl rfl) (Frz.litsN (enc := encNE) sampleL rfl (fun _ _ => rfl))) ?_
  refine rC ?_;refine nS ?_;refine wc_ret ?_
  exact ⟨trivial, [], .of rfl rfl rfl rfl rfl ⟨⟨_, rfl, AVLe.d (encNE_arr (by decide)) rfl⟩, rfl, trivial⟩ trivial⟩
def t1L : List UInt8 := [114, 101, 116, 117, 114, 110, 32, 48, 32, 111, 107, 10]
def t2L : List UInt8 := [105, 110, 118, 111, 107, 101, 32, 56, 32, 102, 108, 117, 115, 104, 10]
def preL : List UInt8 := [105, 110, 118, 111, 107, 101, 32, 48, 32, 114, 101, 97, 100, 32, 49, 10, 105, 110, 118, 111, 107, 101, 32, 49, 32, 102, 108, 117, 115, 104, 10, 114, 101, 116, 117, 114, 110, 32, 48, 32, 111, 107, 32]
def postL : List UInt8 := [10, 99, 114, 97, 115, 104, 10, 105, 110, 118, 111, 107, 101, 32, 48, 32, 114, 101, 97, 100, 32, 49, 10]
def w07 : Nat → List UInt8
 | 0 => []
 | n + 1 => w07 n ++ [48, 55]
theorem w07_len : ∀ n, (w07 n).length = 2 * n
 | 0 => rfl
 | n + 1 => by rw [w07, List.length_append, w07_len n]; simp; omega
def e3 : List Int := [18, 18, 5]
theorem lives24_w (S : List HEv) (O : List HOp) (o0 o1 o2 : HOp) (EE : List (List HEv)) (E0 E1 P1 : List HEv) (T : List UInt8)
  (hS : FnIs Tryz.prog 53 [] [] (.d (encH S)) []) (h1S : 1 ≤ S.length)
  (hc : FnIs Tryz.prog 20 [.d (encH S)] [] (.tup (.acons (.int .i64 0) (.acons (.int .i64 0) .anil))) [])
  (hc1 : FnIs Tryz.prog 20 [.d (encH (S.drop 1))] [] (.tup (.acons (.int .i64 1) (.acons (.int .i64 18) .anil))) [])
  (ho : FnIs Tryz.prog 21 [.d (encH S)] [] (.tup (.acons (.d (encOX O)) (.acons (.int .i64 0) .anil))) [])
  (he : FnIs Tryz.prog 22 [.d (encH S)] [] (.tup (.acons (.d (.arx 1 encHX EE)) (.acons (.int .i64 0) .anil))) [])
  (hp : FnIs Tryz.prog 23 [.d (encH S), .int .i64 1] [] (.tup (.acons (.d (encHX P1)) (.acons (.int .i64 0) .anil))) [])
  (ht : FnIs Tryz.prog 24 [.d (encH S)] [] (.tup (.acons (.d (strD T)) (.acons (.int .i64 0) .anil))) [])
  (hO : O.length = 3) (hO0 : O[((0 : Int)).toNat]? = some o0) (hO1 : O[((1 : Int)).toNat]? = some o1) (hO2 : O[((2 : Int)).toNat]? = some o2)
  (hEE : EE.length = 2) (hE0 : EE[((0 : Int)).toNat]? = some E0) (hE1 : EE[((1 : Int)).toNat]? = some E1) (hl0 : E0.length = 3) (hl1 : E1.length = 1) (hlp : P1.length = 2)
  (hro : FnIs Tryz.prog 27 [.d (encH S)] [] (.d (encOps O)) [])
  (hso : FnIs Tryz.prog 26 [.d (encOps O), .d (encOps O)] [] (.d (i6 1)) [])
  (r0 : o0.returned = 2) (r1 : o1.returned = -1) (r2 : o2.number = 1) (r3 : o2.era = 1) (r4 : o2.invoked = 4)
  (hb01 : FnIs Tryz.prog 54 [.d (encOpn o0), .d (encOpn o1)] [] (.bool false) [])
  (hb12 : FnIs Tryz.prog 54 [.d (encOpn o1), .d (encOpn o2)] [] (.bool true) [])
  (hb20 : FnIs Tryz.prog 54 [.d (encOpn o2), .d (encOpn o0)] [] (.bool false) [])
  (hp1 : FnIs Tryz.prog 30 [.d (strD t1L)] [] (hpR [] 1 18) [])
  (hp2 : FnIs Tryz.prog 30 [.d (strD t2L)] [] (hpR [] 1 18) [])
  (hp3 : FnIs Tryz.prog 30 [.d (strD sCrash)] [] (hpR [] 1 5) [])
  (hT : T = preL ++ w07 32 ++ postL) : FnIs Tryz.prog 18 [] [] (.bool true) [] := by
 have f1 : (!decide ((O.length : Int) = 3)) = false := by rw [dT (by omega)]; rfl
 have f2 : (!decide ((EE.length : Int) = 2)) = false := by rw [dT (by omega)]; rfl
 have f3 : (!decide ((E0.length : Int) = 3)) = false := by rw [dT (by omega)]; rfl
 have f4 : (!decide ((E1.length : Int) = 1)) = false := by rw [dT (by omega)]; rfl
 have f5 : (!decide ((P1.length : Int) = 2)) = false := by rw [dT (by omega)]; rfl
 have g0 : (!decide (o0.returned = 2)) = false := by rw [dT r0]; rfl
 have g1 : (!decide (o1.returned = -1)) = false := by rw [dT r1]; rfl
 have g2 : (!decide (o2.number = 1)) = false := by rw [dT r2]; rfl
 have g3 : (!decide (o2.era = 1)) = false := by rw [dT r3]; rfl
 have g4 : (!decide (o2.invoked = 4)) = false := by rw [dT r4]; rfl
 refine fnIs_of tab_ok Tryz.func18 rfl rfl rfl ?_;refine sR ?_;refine rC ?_;refine nR ?_;refine rQ (call_r hS rfl rfl arg_nil (.inl rfl) (fun _ => rfl)) ?_;refine rC ?_
 refine nR ?_;refine rC ?_;refine rQ (call_r hc rfl rfl (arg_e arg_nil) (.inl rfl) (fun _ => rfl)) ?_;iterate 5 refine rC ?_
 refine nR ?_;refine rC ?_;refine rQ (slice_from (m := 1) tab_ok rfl rfl rfl rfl rfl h1S) ?_;refine rQ (call_r hc1 rfl rfl (arg_e arg_nil) (.inl rfl) (fun _ => rfl)) ?_
 iterate 5 refine rC ?_
 refine nR ?_;refine rC ?_;refine rQ (call_r ho rfl rfl (arg_e arg_nil) (.inl rfl) (fun _ => rfl)) ?_;iterate 5 refine rC ?_
 refine nR ?_;refine rC ?_;refine rQ (call_r he rfl rfl (arg_e arg_nil) (.inl rfl) (fun _ => rfl)) ?_;iterate 5 refine rC ?_
 refine nR ?_;refine rC ?_;refine rQ (call_r hp rfl rfl (arg_e (arg_e arg_nil)) (.inl rfl) (fun _ => rfl)) ?_;iterate 5 refine rC ?_
 refine nR ?_;refine rC ?_;refine rQ (call_r ht rfl rfl (arg_e arg_nil) (.inl rfl) (fun _ => rfl)) ?_;iterate 5 refine rC ?_
 refine nQ ?_;refine sR ?_;iterate 3 refine rC ?_
 refine rP ?_;refine rC ?_;refine rP ?_;refine rC ?_;refine rQ iG ?_;refine rC ?_;refine rP ?_;refine rC ?_;refine rP ?_;refine rC ?_;refine rQ iG ?_;refine rC ?_
 refine rP ?_;refine rC ?_;refine rP ?_;refine rC ?_;refine rQ iG ?_;refine rC ?_;refine rP ?_;refine rC ?_;refine rP ?_;refine rC ?_;refine rQ iG ?_;refine rC ?_
 refine rP ?_;refine rC ?_;refine rP ?_;refine rC ?_;refine rQ iG ?_;refine rC ?_;refine rP ?_;refine rC ?_;refine rP ?_;refine rC ?_;refine rQ iG ?_;refine rC ?_
 refine rP ?_;refine rC ?_;refine rP ?_;refine rC ?_;refine rQ iG ?_;refine rC ?_;refine rP ?_;refine rC ?_;refine rP ?_;refine rQ (len_arx tab_ok rfl rfl) ?_;refine rP ?_
 refine rC ?_;refine rQ iG ?_;refine rC ?_;refine rO ?_;refine rC ?_;refine rO ?_;refine rQ (len_arx tab_ok rfl rfl) ?_;refine rO ?_;refine rC ?_;refine rQ iF ?_
 refine rC ?_;refine rO ?_;refine rC ?_;refine rO ?_;refine rQ (index_arx tab_ok rfl rfl rfl rfl rfl (by omega) hE0) ?_;refine rO ?_;refine rQ iL ?_;refine rO ?_
 refine rQ (len_arx tab_ok rfl rfl) ?_;refine rO ?_;refine rC ?_;refine rQ iF ?_;refine rC ?_;refine rO ?_;refine rC ?_;refine rO ?_;refine rQ (index_arx tab_ok rfl rfl rfl rfl rfl (by omega) hE1) ?_
 refine rO ?_;refine rQ iL ?_;refine rO ?_;refine rQ (len_arx tab_ok rfl rfl) ?_;refine rO ?_;refine rC ?_;refine rQ iF ?_;refine rC ?_;refine rO ?_;refine rC ?_
 refine rO ?_;refine rQ (len_arx tab_ok rfl rfl) ?_;refine rO ?_;refine rC ?_;refine rQ iF ?_;refine nS ?_;refine wF ?_;refine kS ?_;refine qR ?_;iterate 2 refine rC ?_
 refine rQ (call_r hro rfl rfl (arg_e arg_nil) (.inl rfl) (fun _ => rfl)) ?_;refine rQ (call_r hso rfl rfl (arg_d rfl trivial DLe.arx_arr (arg_e arg_nil)) (.inl rfl) (fun _ => rfl)) ?_
 iterate 2 refine rC ?_
 refine rP ?_;refine rC ?_;refine rP ?_;refine rQ (index_arx (xs := O) tab_ok rfl rfl rfl rfl rfl (by omega) hO0) ?_;refine rP ?_;refine rC ?_;refine rP ?_;refine rQ iL ?_
 refine rP ?_;refine rC ?_;refine rQ iG ?_;refine rC ?_;refine rO ?_;refine rC ?_;refine rO ?_;refine rQ (index_arx (xs := O) tab_ok rfl rfl rfl rfl rfl (by omega) hO1) ?_
 refine rO ?_;refine rC ?_;refine rO ?_;refine rQ iL ?_;refine rO ?_;refine rC ?_;refine rQ iF ?_;refine rC ?_;refine rO ?_;refine rC ?_;refine rO ?_;refine rQ (index_arx (xs := O) tab_ok rfl rfl rfl rfl rfl (by omega) hO2) ?_
 refine rO ?_;refine rC ?_;refine rO ?_;refine rQ iL ?_;refine rO ?_;refine rC ?_;refine rQ iF ?_;refine rC ?_;refine rO ?_;refine rC ?_;refine rO ?_;refine rQ (index_arx (xs := O) tab_ok rfl rfl rfl rfl rfl (by omega) hO2) ?_
 refine rO ?_;refine rC ?_;refine rO ?_;refine rQ iL ?_;refine rO ?_;refine rC ?_;refine rQ iF ?_;refine rC ?_;refine rO ?_;refine rC ?_;refine rO ?_;refine rQ (index_arx (xs := O) tab_ok rfl rfl rfl rfl rfl (by omega) hO2) ?_
 refine rO ?_;refine rC ?_;refine rO ?_;refine rQ iL ?_;refine rO ?_;refine rC ?_;refine rQ iF ?_;refine nS ?_;refine wF ?_;refine kS ?_;iterate 2 refine wc_seq ?_
 refine wc_draw (by kernel_rfl) ?_;refine dC [6] [] ?_;refine dQ [152] [] (index_arx (xs := O) tab_ok rfl rfl rfl rfl rfl (by omega) hO0) ?_;refine dQ [153] [] iL ?_
 refine dC [6] [] ?_;refine dQ [155] [] (index_arx (xs := O) tab_ok rfl rfl rfl rfl rfl (by omega) hO1) ?_;refine dQ [156] [] iL ?_;refine dQ [154, 157] [] (call_r hb01 rfl rfl (arg_e (arg_e arg_nil)) (.inl rfl) (fun _ => rfl)) ?_
 refine dC [158] [] ?_;refine dreg_onq [159, 6] [] rfl rfl rfl rfl (step_C tab_ok (fun K hk => hk)) ?_;refine dreg_onq [159, 160] [] rfl rfl rfl rfl (index_arx (xs := O) tab_ok rfl rfl rfl rfl rfl (by omega) hO1) ?_
 refine dreg_onq [159, 161] [] rfl rfl rfl rfl (load_i tab_ok rfl rfl) ?_;refine dreg_onq [159, 6] [] rfl rfl rfl rfl (step_C tab_ok (fun K hk => hk)) ?_;refine dreg_onq [159, 163] [] rfl rfl rfl rfl (index_arx (xs := O) tab_ok rfl rfl rfl rfl rfl (by omega) hO2) ?_
 refine dreg_onq [159, 164] [] rfl rfl rfl rfl (load_i tab_ok rfl rfl) ?_;refine dreg_onq [159, 162, 165] [] rfl rfl rfl rfl (call_r hb12 rfl rfl (arg_e (arg_e arg_nil)) (.inl rfl) (fun _ => rfl)) ?_
 refine dreg_onq [159, 166] [] rfl rfl rfl rfl (step_C tab_ok (fun K hk => hk)) ?_;refine dQ [159, 167] [] iG ?_;refine dC [168] [] ?_;refine dreg_onq [169, 6] [] rfl rfl rfl rfl (step_C tab_ok (fun K hk => hk)) ?_
 refine dreg_onq [169, 170] [] rfl rfl rfl rfl (index_arx (xs := O) tab_ok rfl rfl rfl rfl rfl (by omega) hO2) ?_;refine dreg_onq [169, 171] [] rfl rfl rfl rfl (load_i tab_ok rfl rfl) ?_
 refine dreg_onq [169, 6] [] rfl rfl rfl rfl (step_C tab_ok (fun K hk => hk)) ?_;refine dreg_onq [169, 173] [] rfl rfl rfl rfl (index_arx (xs := O) tab_ok rfl rfl rfl rfl rfl (by omega) hO0) ?_
 refine dreg_onq [169, 174] [] rfl rfl rfl rfl (load_i tab_ok rfl rfl) ?_;refine dreg_onq [169, 172, 175] [] rfl rfl rfl rfl (call_r hb20 rfl rfl (arg_e (arg_e arg_nil)) (.inl rfl) (fun _ => rfl)) ?_
 refine dQ [169, 176] [] iG ?_;refine dreg_end (by kernel_rfl) ?_;refine seq_n ?_;refine wG ?_;refine kS ?_;refine sR ?_;refine rC ?_;refine nQ ?_;refine sR ?_;refine rC ?_
 refine nS ?_;refine wc_block ?_
 refine wc_inv (fun i : Nat => ⟨[(12, .d (strD T)), (14, .d (strD (w07 i))), (15, .int .i64 (i : Nat))], [], 2000, Tryz.f18.ntmps, 64⟩) (fun i => i ≤ 32) (fun i => 32 - i) 0 [] (Nat.zero_le _)
  (.of rfl rfl rfl rfl rfl ⟨⟨_, rfl, .refl _⟩, rfl, ⟨_, rfl, .refl _⟩, rfl, ⟨_, rfl, .refl _⟩, rfl, trivial⟩ trivial) ?_
 intro i hi
 refine wc_of ?_
 clear hS hc hc1 ho he hp ht hro hso hb01 hb12 hb20
 by_cases hlt : i < 32
 ·have c1 : decide ((i : Int) < 32) = true := dT (by omega)
  refine qR ?_;iterate 2 refine rC ?_
  refine nS ?_;refine wT ?_;refine kS ?_;refine wc_seq ?_;refine wc_block ?_;refine wc_region ?_;refine rC ?_
  refine rQ (add_str (a := w07 i) (b := [48, 55]) rfl rfl (by rw [w07_len]; simp; omega) rfl) ?_
  refine rC ?_;refine reg_nil ?_;refine blk_n ?_;refine seq_n ?_;refine wc_region ?_;refine rC ?_;refine rQ iD ?_;refine rC ?_;refine reg_nil ?_
  exact loop_n (i + 1) [] hlt (by omega) (.of rfl rfl rfl rfl rfl ⟨⟨_, rfl, .refl _⟩, rfl, ⟨_, rfl, .refl _⟩, rfl, ⟨_, rfl, .refl _⟩, rfl, trivial⟩ trivial)
 ·have c1 : decide ((i : Int) < 32) = false := dF (by omega)
  have hie : i = 32 := by omega
  subst hie
  refine qR ?_;iterate 2 refine rC ?_
  refine nS ?_;refine wG ?_;refine wc_exit ?_;refine seq_x ?_;refine loop_x ?_;refine blk_x ?_;refine seq_n ?_;refine qR ?_;refine rQ (StepIs.frozen (build_slice (s := 1) tab_ok rfl rfl rfl rfl rfl rfl rfl rfl) (Frz.litsN (enc := strD) [t1L, t2L, sCrash] rfl (fun _ _ => rfl))) ?_
  refine rQ iE ?_;refine rC ?_;refine nS ?_;refine wc_block ?_
  refine wc_inv (fun i : Nat => ⟨[(12, .d (strD T)), (14, .d (strD (w07 32))), (184, .d (.arr 1 strD [t1L, t2L, sCrash])), (185, .int .i64 3), (186, .int .i64 (i : Nat))], [], 3000, Tryz.f18.ntmps, 64⟩) (fun i => i ≤ 3) (fun i => 3 - i) 0 [] (Nat.zero_le _)
   (.of rfl rfl rfl rfl rfl ⟨⟨_, rfl, .refl _⟩, rfl, ⟨_, rfl, .refl _⟩, rfl, ⟨_, rfl, .refl _⟩, rfl, ⟨_, rfl, .refl _⟩, rfl, ⟨_, rfl, .refl _⟩, rfl, trivial⟩ trivial) ?_
  intro i hi
  refine wc_of ?_
  match i, hi with
  | 0, _ =>
   have hgx : [t1L, t2L, sCrash][(((0 : Nat) : Int)).toNat]? = some t1L := rfl
   have hpx := hp1
   refine sR ?_;refine rC ?_;refine nQ ?_;refine wV ?_;refine kS ?_;refine wc_seq ?_;refine wc_block ?_;refine sR ?_;refine rC ?_;refine rQ (index_arr tab_ok rfl rfl rfl rfl rfl (by omega) hgx) ?_
   refine rQ iL ?_;iterate 2 refine rC ?_
   refine nR ?_;refine rC ?_;refine rQ (call_r hpx rfl rfl (arg_e arg_nil) (.inl rfl) (fun _ => rfl)) ?_;iterate 7 refine rC ?_
   refine nR ?_;refine rC ?_;refine rQ (build_arr tab_ok rfl rfl rfl rfl rfl) ?_;refine rC ?_;refine rQ (step_C tab_ok (fun K hk => ⟨by decide, by decide, _, rfl, hk⟩)) ?_
   iterate 2 refine rC ?_
   refine rP ?_;refine rC ?_;refine rP ?_;refine rC ?_;refine rQ iG ?_;refine nS ?_;refine wG ?_;refine wc_skip ?_;refine blk_n ?_;refine seq_n ?_;refine wc_region ?_
   refine rQ iD ?_;refine rC ?_;refine reg_nil ?_
   exact loop_n 1 [] (by decide) (by decide) (.of rfl rfl rfl rfl rfl ⟨⟨_, rfl, .refl _⟩, rfl, ⟨_, rfl, .refl _⟩, rfl, ⟨_, rfl, .refl _⟩, rfl, ⟨_, rfl, .refl _⟩, rfl, ⟨_, rfl, .refl _⟩, rfl, trivial⟩ trivial)
  | 1, _ =>
   have hgx : [t1L, t2L, sCrash][(((1 : Nat) : Int)).toNat]? = some t2L := rfl
   have hpx := hp2
   refine sR ?_;refine rC ?_;refine nQ ?_;refine wV ?_;refine kS ?_;refine wc_seq ?_;refine wc_block ?_;refine sR ?_;refine rC ?_;refine rQ (index_arr tab_ok rfl rfl rfl rfl rfl (by omega) hgx) ?_
   refine rQ iL ?_;iterate 2 refine rC ?_
   refine nR ?_;refine rC ?_;refine rQ (call_r hpx rfl rfl (arg_e arg_nil) (.inl rfl) (fun _ => rfl)) ?_;iterate 7 refine rC ?_
   refine nR ?_;refine rC ?_;refine rQ (build_arr tab_ok rfl rfl rfl rfl rfl) ?_;refine rC ?_;refine rQ (step_C tab_ok (fun K hk => ⟨by decide, by decide, _, rfl, hk⟩)) ?_
   iterate 2 refine rC ?_
   refine rP ?_;refine rC ?_;refine rP ?_;refine rC ?_;refine rQ iG ?_;refine nS ?_;refine wG ?_;refine wc_skip ?_;refine blk_n ?_;refine seq_n ?_;refine wc_region ?_
   refine rQ iD ?_;refine rC ?_;refine reg_nil ?_
   exact loop_n 2 [] (by decide) (by decide) (.of rfl rfl rfl rfl rfl ⟨⟨_, rfl, .refl _⟩, rfl, ⟨_, rfl, .refl _⟩, rfl, ⟨_, rfl, .refl _⟩, rfl, ⟨_, rfl, .refl _⟩, rfl, ⟨_, rfl, .refl _⟩, rfl, trivial⟩ trivial)
  | 2, _ =>
   have hgx : [t1L, t2L, sCrash][(((2 : Nat) : Int)).toNat]? = some sCrash := rfl
   have hpx := hp3
   refine sR ?_;refine rC ?_;refine nQ ?_;refine wV ?_;refine kS ?_;refine wc_seq ?_;refine wc_block ?_;refine sR ?_;refine rC ?_;refine rQ (index_arr tab_ok rfl rfl rfl rfl rfl (by omega) hgx) ?_
   refine rQ iL ?_;iterate 2 refine rC ?_
   refine nR ?_;refine rC ?_;refine rQ (call_r hpx rfl rfl (arg_e arg_nil) (.inl rfl) (fun _ => rfl)) ?_;iterate 7 refine rC ?_
   refine nR ?_;refine rC ?_;refine rQ (build_arr tab_ok rfl rfl rfl rfl rfl) ?_;refine rC ?_;refine rQ (step_C tab_ok (fun K hk => ⟨by decide, by decide, _, rfl, hk⟩)) ?_
   iterate 2 refine rC ?_
   refine rP ?_;refine rC ?_;refine rP ?_;refine rC ?_;refine rQ iG ?_;refine nS ?_;refine wG ?_;refine wc_skip ?_;refine blk_n ?_;refine seq_n ?_;refine wc_region ?_
   refine rQ iD ?_;refine rC ?_;refine reg_nil ?_
   exact loop_n 3 [] (by decide) (by decide) (.of rfl rfl rfl rfl rfl ⟨⟨_, rfl, .refl _⟩, rfl, ⟨_, rfl, .refl _⟩, rfl, ⟨_, rfl, .refl _⟩, rfl, ⟨_, rfl, .refl _⟩, rfl, ⟨_, rfl, .refl _⟩, rfl, trivial⟩ trivial)
  | 3, _ =>
   have dT : decide (T = preL ++ w07 32 ++ postL) = true := dT hT
   refine sR ?_;refine rC ?_;refine nQ ?_;refine wG ?_;refine wc_exit ?_;refine seq_x ?_;refine loop_x ?_;refine blk_x ?_;refine seq_n ?_;refine sR ?_;iterate 2 refine rC ?_
   refine rQ (add_str (a := preL) (b := w07 32) rfl rfl (by rw [w07_len]; decide) rfl) ?_
   refine rQ (add_str (a := preL ++ w07 32) (b := postL) rfl rfl (by rw [List.length_append, w07_len]; decide) rfl) ?_
   refine rQ (eql_s (a := T) (b := preL ++ w07 32 ++ postL) tab_ok rfl rfl rfl) ?_;refine rC ?_;refine nS ?_;refine wc_ret ?_
   exact ⟨trivial, [], .of rfl rfl rfl rfl rfl ⟨⟨_, rfl, AVLe.of_eq (congrArg AV.bool dT)⟩, rfl, trivial⟩ trivial⟩
  | i + 4, hi => exact absurd hi (by omega)
end Go.Proofs.YtmojbghcngdkpaaGreatDoor
namespace Go.Proofs.YtmojbghcngdkpaaGreatDoor
open Go.Eng Go.Plain
set_option maxRecDepth 50000
def sOps : List HOp := [⟨0, 0, 0, ⟨1, 1, []⟩, 0, 2, b7, 0⟩, ⟨1, 0, 0, ⟨3, 0, []⟩, 1, -1, zBk, 0⟩, ⟨0, 1, 1, ⟨1, 1, []⟩, 4, -1, zBk, 0⟩]
theorem sample_chk : chkH sampleL = (0, 0) := by decide +kernel
theorem sample_chk1 : chkH (sampleL.drop 1) = (1, 18) := by decide +kernel
theorem sample_ops : opsH sampleL = sOps := by decide +kernel
theorem sample_opsR : opsR sampleL = sOps := by decide +kernel
theorem sample_eras : erasG sampleL [] [] = [sampleL.take 3, sampleL.drop 4] := by decide +kernel
theorem sample_proj : sampleL.filter (projB 1) = [⟨1, 1, ⟨3, 0, []⟩, zBk, 0⟩, ⟨3, 0, zOp, zBk, 0⟩] := by decide +kernel
theorem sample_text : textE sampleL = preL ++ w07 32 ++ postL := by decide +kernel
theorem sample_ok : ∀ x ∈ sampleL, x.Ok ∧ x.op.data.length ≤ 64 := by
 have h : ∀ x ∈ sampleL, (0 ≤ x.kind ∧ x.kind ≤ 255) ∧ (-9223372036854775808 ≤ x.client ∧ x.client ≤ 9223372036854775807) ∧ (0 ≤ x.op.kind ∧ x.op.kind ≤ 255) ∧ (-9223372036854775808 ≤ x.op.index ∧ x.op.index ≤ 9223372036854775807) ∧ x.value.length = 32 ∧ (-9223372036854775808 ≤ x.err ∧ x.err ≤ 9223372036854775807) ∧ x.op.data.length ≤ 64 := by decide +kernel
 intro x hx
 obtain ⟨h1, h2, h3, h4, h5, h6, h7⟩ := h x hx
 exact ⟨⟨h1, h2, ⟨h3, h4⟩, h5, h6⟩, h7⟩
theorem l1_no (x : HEv) (hw : WfE x) (hl : lineE x ++ [10] = t1L) (ht : (takeS rd0 x).2 = false) : hparse t1L rd0 [] 1 = ([], 1, 18) := by
 have hc : cutL t1L 10 = some (lineE x, []) := by rw [← hl]; exact cutL_is _ (line_no10 hw)
 rw [hparse_some _ _ _ (by decide) hc, evP_line hw]
 simp only
 rw [if_neg (by decide), ht]
 rfl
theorem l2_no (x : HEv) (hw : WfE x) (hl : lineE x ++ [10] = t2L) (ht : (takeS rd0 x).2 = false) : hparse t2L rd0 [] 1 = ([], 1, 18) := by
 have hc : cutL t2L 10 = some (lineE x, []) := by rw [← hl]; exact cutL_is _ (line_no10 hw)
 rw [hparse_some _ _ _ (by decide) hc, evP_line hw]
 simp only
 rw [if_neg (by decide), ht]
 rfl
theorem l3_no : hparse sCrash rd0 [] 1 = ([], 1, 5) := hparse_none _ _ _ (by decide) (by decide)
theorem lives24_is : FnIs Tryz.prog 18 [] [] (.bool true) [] := by
 have hc := hcheck_is sampleL (by decide)
 rw [sample_chk] at hc
 have hc1 := hcheck_is (sampleL.drop 1) (by decide)
 rw [sample_chk1] at hc1
 have ho := hops_is sampleL (by decide) (by rw [show (rdH sampleL).all = sOps by decide +kernel]; decide)
 rw [sample_ops, sample_chk] at ho
 have he := heras_is sampleL (by decide) (fun x hx => Nat.le_trans (sample_ok x hx).2 (by decide))
 rw [sample_chk, if_pos rfl, sample_eras] at he
 have hp := hproj_is sampleL 1 (by decide) (fun x hx => Nat.le_trans (sample_ok x hx).2 (by decide))
 rw [show projE 1 sampleL = 0 by rw [projE, sample_chk]; decide, if_pos rfl, sample_proj] at hp
 have ht := htext_is sampleL (by decide) (fun _ => by decide) (fun _ => sample_ok) (fun _ => by rw [sample_text]; decide)
 rw [sample_chk, if_pos rfl] at ht
 have hro := rops_is sampleL (by decide)
 rw [sample_opsR] at hro
 have hso := sameops_is sOps sOps (by decide)
 rw [if_pos rfl] at hso
 have hb01 := before_is ⟨0, 0, 0, ⟨1, 1, []⟩, 0, 2, b7, 0⟩ ⟨1, 0, 0, ⟨3, 0, []⟩, 1, -1, zBk, 0⟩
 have hb12 := before_is ⟨1, 0, 0, ⟨3, 0, []⟩, 1, -1, zBk, 0⟩ ⟨0, 1, 1, ⟨1, 1, []⟩, 4, -1, zBk, 0⟩
 have hb20 := before_is ⟨0, 1, 1, ⟨1, 1, []⟩, 4, -1, zBk, 0⟩ ⟨0, 0, 0, ⟨1, 1, []⟩, 0, 2, b7, 0⟩
 have hp1 := hparse_main t1L (by decide)
 rw [l1_no ⟨2, 0, zOp, zBk, 0⟩ ⟨by decide, by decide, .inr (.inr ⟨rfl, rfl, rfl, rfl, fun h => absurd rfl h⟩)⟩ (by decide +kernel) (by decide +kernel)] at hp1
 have hp2 := hparse_main t2L (by decide)
 rw [l2_no ⟨1, 8, ⟨3, 0, []⟩, zBk, 0⟩ ⟨by decide, by decide, .inr (.inl ⟨rfl, rfl, rfl, ⟨by decide, by decide⟩, by decide⟩)⟩ (by decide +kernel) (by decide +kernel)] at hp2
 have hp3 := hparse_main sCrash (by decide)
 rw [l3_no] at hp3
 exact lives24_w sampleL sOps _ _ _ _ _ _ _ (textE sampleL) sample_is (by decide) hc hc1 ho he hp ht rfl rfl rfl rfl rfl rfl rfl rfl rfl rfl hro hso rfl rfl rfl rfl rfl hb01 hb12 hb20 hp1 hp2 hp3 sample_text
end Go.Proofs.YtmojbghcngdkpaaGreatDoor
namespace Go.Proofs.YtmojbghcngdkpaaGreatDoor
open Go.Eng Go.Plain
set_option linter.unusedVariables false
theorem wf_data {x : HEv} (h : WfE x) : x.op.data.length ≤ 64 := by
 rcases h.2.2 with h | h | h
 ·rw [h.2.2.1]; decide
 ·exact h.2.2.2.2
 ·rw [h.2.1]; decide
def AllFit (h : List HEv) : Prop := ∀ i x, h[i]? = some x → fitB (h.take i) x = true
end Go.Proofs.YtmojbghcngdkpaaGreatDoor
namespace Go.Proofs.YtmojbghcngdkpaaGreatDoor
open Go.Eng Go.Plain
set_option maxHeartbeats 8000000
set_option maxRecDepth 20000
set_option linter.unusedVariables false
attribute [local irreducible] WC RegS RegD SeqQ BlkQ ScoQ RegK CutK Sat SatN FnIs LoopQ StepIs OpIs
theorem wf_ok {x : HEv} (h : WfE x) : x.Ok := by
 obtain ⟨h1, h2, h⟩ := h
 rcases h with ⟨k, c, p, v, e⟩ | ⟨k, v, e, p, d⟩ | ⟨k, p, e, v, _⟩
 ·exact ⟨by rw [k]; decide, ⟨h1, h2⟩, by rw [p]; exact zop_ok, by rw [v]; rfl, by rw [e]; decide⟩
 ·exact ⟨by rw [k]; decide, ⟨h1, h2⟩, p, by rw [v]; rfl, by rw [e]; decide⟩
 ·exact ⟨by rw [k]; decide, ⟨h1, h2⟩, by rw [p]; exact zop_ok, v, by rcases kn4_out e with e | e | e | e <;> (rw [e]; decide)⟩
theorem law24_parse (s : List UInt8) : FnIs Tryz.prog 6 [.d (strD s)] [] (.bool true) [] := by
 refine fnIs_of tab_ok Tryz.func6 rfl rfl rfl ?_
 by_cases hs : s.length ≤ 600
 ·have e6 : decide ((600 : Int) < (s.length : Int)) = false := dF (by omega)
  have hrp := rparse24_is s (by omega)
  have hpp := hparse_main s (by omega)
  obtain ⟨m, j, e, hP⟩ : ∃ m j e, hparse s rd0 [] 1 = (m, j, e) := ⟨_, _, _, rfl⟩
  obtain ⟨h1, h2⟩ := hparse_out s.length s rd0 [] 1 m j e (Nat.le_refl _) (Nat.le_refl _) hP
  rw [hP] at hrp hpp
  simp only at hrp hpp
  have q1 : (!decide ((j : Int) = (j : Int))) = false := by rw [dT rfl]; rfl
  have q2 : (!decide (e = e)) = false := by rw [dT rfl]; rfl
  by_cases h0 : e = 0
  ·have e0 : (!decide (e = 0)) = false := by rw [dT h0]; rfl
   obtain ⟨_, q, hq, hqs, hqw, hql, hqg⟩ := h1 h0
   rw [List.nil_append] at hq
   subst hq
   have hml : m.length ≤ 600 := by
    have : ∀ (l : List HEv), l.length ≤ (l.flatMap fun x => lineE x ++ [10]).length := fun l => by
     induction l with
     | nil => simp
     | cons x l ih => simp only [List.flatMap_cons, List.length_append, List.length_cons, List.length_nil]; omega
    have := this m
    rw [hqs] at this
    omega
   have hsm := hrsame_is m m (by omega)
   rw [if_pos rfl] at hsm
   have hck : chkH m = (0, 0) := by
    unfold chkH
    rw [if_neg (by omega), if_neg (by have := hqg 0; omega)]
   have htE : textE m = s := hqs
   have htx := htext_is m (by omega) (fun _ => by omega) (fun _ x hx => ⟨?_, wf_data (hqw x hx)⟩) (fun _ => by rw [htE]; omega)
   ·rw [hck, if_pos rfl, htE] at htx
    have q3 : decide (s = s) = true := dT rfl
    subst h0
    refine sR ?_;refine rC ?_;refine nQ ?_;refine sR ?_;refine rC ?_;refine rQ (len_s tab_ok rfl rfl) ?_;refine rC ?_;refine nS ?_;refine wF ?_;refine kS ?_;refine sR ?_
    refine rC ?_;refine rQ (call_r hrp rfl rfl (arg_e arg_nil) (.inl rfl) (fun _ => rfl)) ?_;iterate 7 refine rC ?_
    refine nR ?_;refine rC ?_;refine rQ (call_r hpp rfl rfl (arg_e arg_nil) (.inl rfl) (fun _ => rfl)) ?_;iterate 7 refine rC ?_
    refine nQ ?_;refine sR ?_;iterate 4 refine rC ?_
    refine rP ?_;refine rC ?_;refine rP ?_;refine rC ?_;refine rP ?_;refine rC ?_;refine rQ iG ?_;refine rC ?_;refine rO ?_;refine rC ?_;refine rO ?_;refine rC ?_;refine rO ?_
    refine rQ (call_r hsm rfl rfl (arg_d rfl trivial DLe.arx_arr (arg_e arg_nil)) (.inl rfl) (fun _ => rfl)) ?_;refine rO ?_;refine rC ?_;refine rQ iF ?_;refine nS ?_
    refine wG ?_;refine kS ?_;refine qR ?_;iterate 2 refine rC ?_
    refine nS ?_;refine wG ?_;refine kS ?_;refine sR ?_;refine rC ?_;refine rQ (call_r htx rfl rfl (arg_d rfl trivial DLe.arx_arr arg_nil) (.inl rfl) (fun _ => rfl)) ?_
    iterate 5 refine rC ?_
    refine nR ?_;iterate 3 refine rC ?_
    refine rP ?_;refine rC ?_;refine rP ?_;refine rC ?_;refine rP ?_;refine rQ (eql_s (a := s) (b := s) tab_ok rfl rfl rfl) ?_;refine rQ iU ?_;refine rC ?_;refine rO ?_
    refine rQ (call_r lives24_is rfl rfl arg_nil (.inl rfl) (fun _ => rfl)) ?_;refine rQ iT ?_;refine rC ?_;refine nS ?_;refine wc_ret ?_
    exact ⟨trivial, [], lf⟩
   ·exact wf_ok (hqw x hx)
  ·have e0 : (!decide (e = 0)) = true := by rw [dF h0]; rfl
   obtain ⟨hm, _⟩ := h2 h0
   subst hm
   have hsm := hrsame_is [] [] (by decide)
   rw [if_pos rfl] at hsm
   refine sR ?_;refine rC ?_;refine nQ ?_;refine sR ?_;refine rC ?_;refine rQ (len_s tab_ok rfl rfl) ?_;refine rC ?_;refine nS ?_;refine wF ?_;refine kS ?_;refine sR ?_
   refine rC ?_;refine rQ (call_r hrp rfl rfl (arg_e arg_nil) (.inl rfl) (fun _ => rfl)) ?_;iterate 7 refine rC ?_
   refine nR ?_;refine rC ?_;refine rQ (call_r hpp rfl rfl (arg_e arg_nil) (.inl rfl) (fun _ => rfl)) ?_;iterate 7 refine rC ?_
   refine nQ ?_;refine sR ?_;iterate 4 refine rC ?_
   refine rO ?_;refine rC ?_;refine rO ?_;refine rC ?_;refine rO ?_;refine rC ?_;refine rQ iF ?_;refine rC ?_;refine rO ?_;refine rC ?_;refine rO ?_;refine rC ?_;refine rO ?_
   refine rQ (call_r hsm rfl rfl (arg_d rfl trivial DLe.arx_arr (arg_e arg_nil)) (.inl rfl) (fun _ => rfl)) ?_;refine rO ?_;refine rC ?_;refine rQ iF ?_;refine nS ?_
   refine wG ?_;refine kS ?_;refine qR ?_;iterate 2 refine rC ?_
   refine nS ?_;refine wT ?_;refine sR ?_;refine rC ?_;refine rQ (len_arx tab_ok rfl rfl) ?_;iterate 2 refine rC ?_
   refine rP ?_;refine rQ (call_r lives24_is rfl rfl arg_nil (.inl rfl) (fun _ => rfl)) ?_;refine rQ iU ?_;refine rC ?_;refine nS ?_;refine wc_ret ?_;refine seq_r ?_
   exact ⟨trivial, [], lf⟩
 ·have e6 : decide ((600 : Int) < (s.length : Int)) = true := dT (by omega)
  refine sR ?_;refine rC ?_;refine nQ ?_;refine sR ?_;refine rC ?_;refine rQ (len_s tab_ok rfl rfl) ?_;refine rC ?_;refine nS ?_;refine wT ?_;refine sR ?_;refine rQ (call_r lives24_is rfl rfl arg_nil (.inl rfl) (fun _ => rfl)) ?_
  refine rC ?_;refine nS ?_;refine wc_ret ?_;refine seq_r ?_
  exact ⟨trivial, [], lf⟩
end Go.Proofs.YtmojbghcngdkpaaGreatDoor
namespace Go.Proofs.YtmojbghcngdkpaaGreatDoor
open Go.Eng Go.Plain
end Go.Proofs.YtmojbghcngdkpaaGreatDoor
