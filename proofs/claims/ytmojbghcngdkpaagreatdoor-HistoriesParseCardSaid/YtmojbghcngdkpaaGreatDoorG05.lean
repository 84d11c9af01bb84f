/- Texts of the proof: P42, Eng80, Eng81, Eng82, P43, PM, PN, P40, P41, P44, P45, P46, Eng83, Eng84, P47a, P47, P48, PO, JP, JQ, HDat, Eng86, Eng85, H1, H2, H3, H4, H5, HR, H6, H7, H8, H9, H10, H11, H14, H15, H16. -/
import Derived.Test.YtmojbghcngdkpaaGreatDoorG04
import Derived.Sort.Row
import Derived.Sort.Grow
import Derived.Lib.SlicesCompact
import Derived.Test.YtmojbghcngdkpaaGreatDoorG02
import Derived.Test.YtmojbghcngdkpaaGreatDoorRows
import Derived.ProofKit
import Derived.LaidMore
import Derived.OpenShut
import Derived.Stop.Joined
import Derived.HandedShaped
import Derived.Lay
import Derived.SevenTiedAt
import Derived.Test.YtmojbghcngdkpaaGreatDoorG03

set_option linter.unusedVariables false
set_option linter.unusedSimpArgs false
set_option linter.unusedSectionVars false

namespace Go.Proofs.YtmojbghcngdkpaaGreatDoor
open Go.Eng Go.Plain
set_option maxHeartbeats 4000000
set_option maxRecDepth 20000
set_option linter.unusedVariables false
set_option linter.unusedSimpArgs false
attribute [local irreducible] WC RegS RegD SeqQ BlkQ ScoQ RegK CutK Sat SatN FnIs LoopQ StepIs OpIs
abbrev readA (o : Option POp) : AV := .tup (.acons (.d (encPOp (o.getD opNil))) (.acons (.int .i64 (o1 o)) .anil))
def finR (s : List UInt8) (o : Option POp) : Option POp := match o with
 | some o => if lineP o = s then some o else none
 | none => none
def op4 (o : Option Int) (x y : List UInt8) : Option POp := match o with
 | some k => Plain.opR k x y
 | none => none
theorem readR_of {s : List UInt8} {w : List (List UInt8)} (h : splitL s 32 = w) : readR s = finR s (wordsR w) := by
 unfold readR finR
 rw [h]
 cases wordsR w <;> rfl
theorem rread_1 (s : List UInt8) (hs : s.length ≤ 1048575) (a x : List UInt8) (ha : a = sRead) (hw : splitL s 32 = [a, x]) (k : Int) (hkv : k = 1) : FnIs Tryz.prog 99 [.d (strD s)] [] (readA (readR s)) [] := by
 have hcut : FnIs Tryz.prog 69 [.d (strD s), .int .u8 32] [] (.d (.arr 1 strD [a, x])) [] := by
  have := rcut_is s 32 hs
  rw [hw] at this
  exact this
 have hmem : ∀ q ∈ [a, x], q.length ≤ s.length := fun q hq => split_mem_le s 32 q (by rw [hw]; exact hq)
 have c0 : decide (a = sRead) = true := dT ha
 have c1 : decide (a = sWrite) = false := dF (by rw [ha]; decide)
 have c2 : decide (a = sFlush) = false := dF (by rw [ha]; decide)
 have c3 : decide (a = sOp) = false := dF (by rw [ha]; decide)
 have g0 : [a, x][((0 : Int)).toNat]? = some a := rfl
 have g1 : [a, x][((1 : Int)).toNat]? = some x := rfl
 have hW : wordsR [a, x] = Plain.opR k x [45] := by rw [ha, hkv]; rfl
 have hR := readR_of hw
 rw [hW] at hR
 have hk0 : 0 ≤ k := by omega
 have hk1 : k ≤ 255 := by omega
 have hxl := hmem x (by simp)
 have hi := rint_is x (by omega)
 obtain ⟨y, hy⟩ : ∃ y : List UInt8, y = [45] := ⟨_, rfl⟩
 rw [← hy] at hR
 have hyl : y.length ≤ 1000 := by rw [hy]; decide
 have hb := rbytes_is y (by omega)
 have hb0 : y = [45] := hy
 have hyl2 : ([45] : List UInt8).length ≤ 1000 := by decide
 subst hkv
 rw [hb0] at hb hR
 clear hb0
 obtain ⟨ob, hob⟩ : ∃ ob, unhexP [45] = ob := ⟨_, rfl⟩
 rw [hob] at hb
 refine fnIs_of tab_ok Tryz.func99 rfl rfl rfl ?_;refine sR ?_;refine rN ?_;refine rC ?_;refine nR ?_;refine rC ?_;refine rQ (call_r hcut rfl rfl (arg_e (arg_e arg_nil)) (.inl rfl) (fun _ => rfl)) ?_
 refine rC ?_;refine nR ?_;refine rQ iS ?_;refine rN ?_;refine rW ?_;refine nR ?_;iterate 2 refine rC ?_
 refine nQ ?_;refine wc_block ?_;refine sR ?_;refine rC ?_;refine rQ iA ?_;refine rQ iL ?_;refine rQ (eql_s (a := a) (b := sRead) tab_ok rfl rfl rfl) ?_;refine rC ?_
 refine rO ?_;refine rC ?_;refine rO ?_;refine rQ iE ?_;refine rO ?_;refine rC ?_;refine rQ iT ?_;refine rC ?_;refine nS ?_;refine wV ?_;refine sR ?_;refine rC ?_
 refine rX ?_;refine nS ?_;refine wc_region ?_;refine rC ?_;refine rQ iA ?_;refine rQ iL ?_;refine rC ?_;refine reg_nil ?_;refine blk_n ?_;refine seq_n ?_;refine sR ?_
 refine rC ?_;refine rQ (call_r hi rfl rfl (arg_e arg_nil) (.inl rfl) (fun _ => rfl)) ?_;iterate 5 refine rC ?_
 refine nR ?_;refine rC ?_;refine rQ (call_r hb rfl rfl (arg_e arg_nil) (.inl rfl) (fun _ => rfl)) ?_;iterate 5 refine rC ?_
 refine nR ?_;iterate 2 refine rC ?_
 refine rX ?_;refine nR ?_;iterate 2 refine rC ?_
 refine rX ?_;refine nQ ?_;refine sR ?_;iterate 3 refine rC ?_
 cases hix : intR x with
 | none =>
  rw [hix] at hi
  have hu : readR s = none := by rw [hR, Plain.opR, hix]; rfl
  rw [hu]
  iterate 2 refine rT ?_
  refine rQ iU ?_;refine rC ?_;iterate 4 refine rT ?_
  refine rQ iU ?_;refine nS ?_;refine wV ?_;refine sR ?_;refine rQ iS ?_;refine rW ?_;refine rC ?_;refine nS ?_;refine wc_ret ?_;refine seq_r ?_
  cases hbx : ob with
  | none =>
   rw [hbx] at hb
   skip
   exact ⟨trivial, _, rfl, [], .of rfl rfl rfl rfl rfl ⟨⟨_, rfl, AVLe.tup1 nil_op rfl⟩, rfl, trivial⟩ trivial⟩
  | some t =>
   rw [hbx] at hb
   skip
   exact ⟨trivial, _, rfl, [], .of rfl rfl rfl rfl rfl ⟨⟨_, rfl, AVLe.tup1 nil_op rfl⟩, rfl, trivial⟩ trivial⟩
 | some n =>
  rw [hix] at hi
  obtain ⟨_, hn0, hn1⟩ := int_some hix
  refine rP ?_;refine rC ?_;refine rP ?_;refine rC ?_;refine rQ iG ?_;refine rC ?_
  cases hbx : ob with
  | none =>
   rw [hbx] at hb
   have hu : readR s = none := by rw [hR, Plain.opR, hix, hob, hbx]; rfl
   rw [hu]
   iterate 4 refine rT ?_
   refine rQ iU ?_;refine nS ?_;refine wV ?_;refine sR ?_;refine rQ iS ?_;refine rW ?_;refine rC ?_;refine nS ?_;refine wc_ret ?_;refine seq_r ?_
   exact ⟨trivial, _, rfl, [], .of rfl rfl rfl rfl rfl ⟨⟨_, rfl, AVLe.tup1 nil_op rfl⟩, rfl, trivial⟩ trivial⟩
  | some t =>
   rw [hbx] at hb
   have htl := unhex_len (hob.trans hbx)
   have hline := rline_is ⟨1, n, t⟩ ⟨⟨hk0, hk1⟩, ⟨hn0, hn1⟩⟩ (by show t.length ≤ 1000000000; omega)
   have hR2 : readR s = if lineP ⟨1, n, t⟩ = s then some ⟨1, n, t⟩ else none := by rw [hR, Plain.opR, hix, hob, hbx]; rfl
   refine rP ?_;refine rQ iM ?_;refine rP ?_;refine rQ (call_r hline rfl rfl (arg_e arg_nil) (.inl rfl) (fun _ => rfl)) ?_;refine rP ?_;refine rC ?_;refine rP ?_;refine rQ (neq_s (b := s) tab_ok rfl rfl rfl) ?_
   refine rQ iG ?_;refine nS ?_
   by_cases hq : lineP ⟨1, n, t⟩ = s
   ·have e3 : (!decide (lineP ⟨1, n, t⟩ = s)) = false := by rw [dT hq]; rfl
    rw [hR2, if_pos hq]
    refine wF ?_;refine kS ?_;refine sR ?_;refine rQ iM ?_;refine rW ?_;refine rC ?_;refine nS ?_;refine wc_ret ?_
    exact ⟨trivial, _, rfl, [], lf⟩
   ·have e3 : (!decide (lineP ⟨1, n, t⟩ = s)) = true := by rw [dF hq]; rfl
    rw [hR2, if_neg hq]
    refine wT ?_;refine sR ?_;refine rQ iS ?_;refine rW ?_;refine rC ?_;refine nS ?_;refine wc_ret ?_;refine seq_r ?_
    exact ⟨trivial, _, rfl, [], .of rfl rfl rfl rfl rfl ⟨⟨_, rfl, AVLe.tup1 nil_op rfl⟩, rfl, trivial⟩ trivial⟩
theorem rread_2 (s : List UInt8) (hs : s.length ≤ 1048575) (a x y : List UInt8) (ha : a = sWrite) (hw : splitL s 32 = [a, x, y]) (k : Int) (hkv : k = 2) : FnIs Tryz.prog 99 [.d (strD s)] [] (readA (readR s)) [] := by
 have hcut : FnIs Tryz.prog 69 [.d (strD s), .int .u8 32] [] (.d (.arr 1 strD [a, x, y])) [] := by
  have := rcut_is s 32 hs
  rw [hw] at this
  exact this
 have hmem : ∀ q ∈ [a, x, y], q.length ≤ s.length := fun q hq => split_mem_le s 32 q (by rw [hw]; exact hq)
 have c0 : decide (a = sRead) = false := dF (by rw [ha]; decide)
 have c1 : decide (a = sWrite) = true := dT ha
 have c2 : decide (a = sFlush) = false := dF (by rw [ha]; decide)
 have c3 : decide (a = sOp) = false := dF (by rw [ha]; decide)
 have g0 : [a, x, y][((0 : Int)).toNat]? = some a := rfl
 have g1 : [a, x, y][((1 : Int)).toNat]? = some x := rfl
 have g2 : [a, x, y][((2 : Int)).toNat]? = some y := rfl
 have hW : wordsR [a, x, y] = Plain.opR k x y := by rw [ha, hkv]; rfl
 have hR := readR_of hw
 rw [hW] at hR
 have hk0 : 0 ≤ k := by omega
 have hk1 : k ≤ 255 := by omega
 have hxl := hmem x (by simp)
 have hyl := hmem y (by simp)
 have hi := rint_is x (by omega)
 have hb := rbytes_is y (by omega)
 subst hkv
 refine fnIs_of tab_ok Tryz.func99 rfl rfl rfl ?_;refine sR ?_;refine rN ?_;refine rC ?_;refine nR ?_;refine rC ?_;refine rQ (call_r hcut rfl rfl (arg_e (arg_e arg_nil)) (.inl rfl) (fun _ => rfl)) ?_
 refine rC ?_;refine nR ?_;refine rQ iS ?_;refine rN ?_;refine rW ?_;refine nR ?_;iterate 2 refine rC ?_
 refine nQ ?_;refine wc_block ?_;refine sR ?_;refine rC ?_;refine rQ iA ?_;refine rQ iL ?_;refine rQ (eql_s (a := a) (b := sRead) tab_ok rfl rfl rfl) ?_;refine rC ?_
 iterate 3 refine rS ?_
 refine rQ iF ?_;refine rC ?_;refine nS ?_;refine wG ?_;refine sR ?_;refine rC ?_;refine rQ iA ?_;refine rQ iL ?_;refine rQ (eql_s (a := a) (b := sWrite) tab_ok rfl rfl rfl) ?_
 refine rC ?_;refine rO ?_;refine rC ?_;refine rO ?_;refine rQ iE ?_;refine rO ?_;refine rC ?_;refine rQ iT ?_;refine rC ?_;refine nS ?_;refine wV ?_;refine sR ?_
 refine rC ?_;refine rX ?_;refine nR ?_;refine rC ?_;refine rQ iA ?_;refine rQ iL ?_;refine rC ?_;refine nS ?_;refine wc_region ?_;refine rC ?_;refine rQ iA ?_;refine rQ iL ?_
 refine rC ?_;refine reg_nil ?_;refine blk_n ?_;refine seq_n ?_;refine sR ?_;refine rC ?_;refine rQ (call_r hi rfl rfl (arg_e arg_nil) (.inl rfl) (fun _ => rfl)) ?_
 iterate 5 refine rC ?_
 refine nR ?_;refine rC ?_;refine rQ (call_r hb rfl rfl (arg_e arg_nil) (.inl rfl) (fun _ => rfl)) ?_;iterate 5 refine rC ?_
 refine nR ?_;iterate 2 refine rC ?_
 refine rX ?_;refine nR ?_;iterate 2 refine rC ?_
 refine rX ?_;refine nQ ?_;refine sR ?_;iterate 3 refine rC ?_
 cases hix : intR x with
 | none =>
  rw [hix] at hi
  have hu : readR s = none := by rw [hR, Plain.opR, hix]; rfl
  rw [hu]
  iterate 2 refine rT ?_
  refine rQ iU ?_;refine rC ?_;iterate 4 refine rT ?_
  refine rQ iU ?_;refine nS ?_;refine wV ?_;refine sR ?_;refine rQ iS ?_;refine rW ?_;refine rC ?_;refine nS ?_;refine wc_ret ?_;refine seq_r ?_
  cases hbx : unhexP y with
  | none =>
   rw [hbx] at hb
   skip
   exact ⟨trivial, _, rfl, [], .of rfl rfl rfl rfl rfl ⟨⟨_, rfl, AVLe.tup1 nil_op rfl⟩, rfl, trivial⟩ trivial⟩
  | some t =>
   rw [hbx] at hb
   skip
   exact ⟨trivial, _, rfl, [], .of rfl rfl rfl rfl rfl ⟨⟨_, rfl, AVLe.tup1 nil_op rfl⟩, rfl, trivial⟩ trivial⟩
 | some n =>
  rw [hix] at hi
  obtain ⟨_, hn0, hn1⟩ := int_some hix
  refine rP ?_;refine rC ?_;refine rP ?_;refine rC ?_;refine rQ iG ?_;refine rC ?_
  cases hbx : unhexP y with
  | none =>
   rw [hbx] at hb
   have hu : readR s = none := by rw [hR, Plain.opR, hix, hbx]; rfl
   rw [hu]
   iterate 4 refine rT ?_
   refine rQ iU ?_;refine nS ?_;refine wV ?_;refine sR ?_;refine rQ iS ?_;refine rW ?_;refine rC ?_;refine nS ?_;refine wc_ret ?_;refine seq_r ?_
   exact ⟨trivial, _, rfl, [], .of rfl rfl rfl rfl rfl ⟨⟨_, rfl, AVLe.tup1 nil_op rfl⟩, rfl, trivial⟩ trivial⟩
  | some t =>
   rw [hbx] at hb
   have htl := unhex_len hbx
   have hline := rline_is ⟨2, n, t⟩ ⟨⟨hk0, hk1⟩, ⟨hn0, hn1⟩⟩ (by show t.length ≤ 1000000000; omega)
   have hR2 : readR s = if lineP ⟨2, n, t⟩ = s then some ⟨2, n, t⟩ else none := by rw [hR, Plain.opR, hix, hbx]; rfl
   refine rP ?_;refine rQ iM ?_;refine rP ?_;refine rQ (call_r hline rfl rfl (arg_e arg_nil) (.inl rfl) (fun _ => rfl)) ?_;refine rP ?_;refine rC ?_;refine rP ?_;refine rQ (neq_s (b := s) tab_ok rfl rfl rfl) ?_
   refine rQ iG ?_;refine nS ?_
   by_cases hq : lineP ⟨2, n, t⟩ = s
   ·have e3 : (!decide (lineP ⟨2, n, t⟩ = s)) = false := by rw [dT hq]; rfl
    rw [hR2, if_pos hq]
    refine wF ?_;refine kS ?_;refine sR ?_;refine rQ iM ?_;refine rW ?_;refine rC ?_;refine nS ?_;refine wc_ret ?_
    exact ⟨trivial, _, rfl, [], lf⟩
   ·have e3 : (!decide (lineP ⟨2, n, t⟩ = s)) = true := by rw [dF hq]; rfl
    rw [hR2, if_neg hq]
    refine wT ?_;refine sR ?_;refine rQ iS ?_;refine rW ?_;refine rC ?_;refine nS ?_;refine wc_ret ?_;refine seq_r ?_
    exact ⟨trivial, _, rfl, [], .of rfl rfl rfl rfl rfl ⟨⟨_, rfl, AVLe.tup1 nil_op rfl⟩, rfl, trivial⟩ trivial⟩
theorem rread_3 (s : List UInt8) (hs : s.length ≤ 1048575) (a : List UInt8) (ha : a = sFlush) (hw : splitL s 32 = [a]) (k : Int) (hkv : k = 3) : FnIs Tryz.prog 99 [.d (strD s)] [] (readA (readR s)) [] := by
 have hcut : FnIs Tryz.prog 69 [.d (strD s), .int .u8 32] [] (.d (.arr 1 strD [a])) [] := by
  have := rcut_is s 32 hs
  rw [hw] at this
  exact this
 have hmem : ∀ q ∈ [a], q.length ≤ s.length := fun q hq => split_mem_le s 32 q (by rw [hw]; exact hq)
 have c0 : decide (a = sRead) = false := dF (by rw [ha]; decide)
 have c1 : decide (a = sWrite) = false := dF (by rw [ha]; decide)
 have c2 : decide (a = sFlush) = true := dT ha
 have c3 : decide (a = sOp) = false := dF (by rw [ha]; decide)
 have g0 : [a][((0 : Int)).toNat]? = some a := rfl
 have hW : wordsR [a] = Plain.opR k [48] [45] := by rw [ha, hkv]; rfl
 have hR := readR_of hw
 rw [hW] at hR
 have hk0 : 0 ≤ k := by omega
 have hk1 : k ≤ 255 := by omega
 have hi := rint_is [48] (by decide)
 have hb := rbytes_is [45] (by decide)
 have hyl : ([45] : List UInt8).length ≤ 1000 := by decide
 subst hkv
 obtain ⟨ob, hob⟩ : ∃ ob, unhexP [45] = ob := ⟨_, rfl⟩
 obtain ⟨oi, hoi⟩ : ∃ oi, intR [48] = oi := ⟨_, rfl⟩
 rw [hob] at hb
 rw [hoi] at hi
 refine fnIs_of tab_ok Tryz.func99 rfl rfl rfl ?_;refine sR ?_;refine rN ?_;refine rC ?_;refine nR ?_;refine rC ?_;refine rQ (call_r hcut rfl rfl (arg_e (arg_e arg_nil)) (.inl rfl) (fun _ => rfl)) ?_
 refine rC ?_;refine nR ?_;refine rQ iS ?_;refine rN ?_;refine rW ?_;refine nR ?_;iterate 2 refine rC ?_
 refine nQ ?_;refine wc_block ?_;refine sR ?_;refine rC ?_;refine rQ iA ?_;refine rQ iL ?_;refine rQ (eql_s (a := a) (b := sRead) tab_ok rfl rfl rfl) ?_;refine rC ?_
 iterate 3 refine rS ?_
 refine rQ iF ?_;refine rC ?_;refine nS ?_;refine wG ?_;refine sR ?_;refine rC ?_;refine rQ iA ?_;refine rQ iL ?_;refine rQ (eql_s (a := a) (b := sWrite) tab_ok rfl rfl rfl) ?_
 refine rC ?_;iterate 3 refine rS ?_
 refine rQ iF ?_;refine rC ?_;refine nS ?_;refine wG ?_;refine sR ?_;refine rC ?_;refine rQ iA ?_;refine rQ iL ?_;refine rQ (eql_s (a := a) (b := sFlush) tab_ok rfl rfl rfl) ?_
 refine rC ?_;refine rO ?_;refine rC ?_;refine rO ?_;refine rQ iE ?_;refine rO ?_;refine rC ?_;refine rQ iT ?_;refine rC ?_;refine nS ?_;refine wV ?_;refine wc_region ?_
 refine rC ?_;refine rX ?_;refine reg_nil ?_;refine blk_n ?_;refine seq_n ?_;refine sR ?_;refine rC ?_;refine rQ (call_r hi rfl rfl (arg_e arg_nil) (.inl rfl) (fun _ => rfl)) ?_
 iterate 5 refine rC ?_
 refine nR ?_;refine rC ?_;refine rQ (call_r hb rfl rfl (arg_e arg_nil) (.inl rfl) (fun _ => rfl)) ?_;iterate 5 refine rC ?_
 refine nR ?_;iterate 2 refine rC ?_
 refine rX ?_;refine nR ?_;iterate 2 refine rC ?_
 refine rX ?_;refine nQ ?_;refine sR ?_;iterate 3 refine rC ?_
 cases hix : oi with
 | none =>
  rw [hix] at hi
  have hu : readR s = none := by rw [hR, Plain.opR, hoi, hix]; rfl
  rw [hu]
  iterate 2 refine rT ?_
  refine rQ iU ?_;refine rC ?_;iterate 4 refine rT ?_
  refine rQ iU ?_;refine nS ?_;refine wV ?_;refine sR ?_;refine rQ iS ?_;refine rW ?_;refine rC ?_;refine nS ?_;refine wc_ret ?_;refine seq_r ?_
  cases hbx : ob with
  | none =>
   rw [hbx] at hb
   skip
   exact ⟨trivial, _, rfl, [], .of rfl rfl rfl rfl rfl ⟨⟨_, rfl, AVLe.tup1 nil_op rfl⟩, rfl, trivial⟩ trivial⟩
  | some t =>
   rw [hbx] at hb
   skip
   exact ⟨trivial, _, rfl, [], .of rfl rfl rfl rfl rfl ⟨⟨_, rfl, AVLe.tup1 nil_op rfl⟩, rfl, trivial⟩ trivial⟩
 | some n =>
  rw [hix] at hi
  obtain ⟨_, hn0, hn1⟩ := int_some (hoi.trans hix)
  refine rP ?_;refine rC ?_;refine rP ?_;refine rC ?_;refine rQ iG ?_;refine rC ?_
  cases hbx : ob with
  | none =>
   rw [hbx] at hb
   have hu : readR s = none := by rw [hR, Plain.opR, hoi, hix, hob, hbx]; rfl
   rw [hu]
   iterate 4 refine rT ?_
   refine rQ iU ?_;refine nS ?_;refine wV ?_;refine sR ?_;refine rQ iS ?_;refine rW ?_;refine rC ?_;refine nS ?_;refine wc_ret ?_;refine seq_r ?_
   exact ⟨trivial, _, rfl, [], .of rfl rfl rfl rfl rfl ⟨⟨_, rfl, AVLe.tup1 nil_op rfl⟩, rfl, trivial⟩ trivial⟩
  | some t =>
   rw [hbx] at hb
   have htl := unhex_len (hob.trans hbx)
   have hline := rline_is ⟨3, n, t⟩ ⟨⟨hk0, hk1⟩, ⟨hn0, hn1⟩⟩ (by show t.length ≤ 1000000000; omega)
   have hR2 : readR s = if lineP ⟨3, n, t⟩ = s then some ⟨3, n, t⟩ else none := by rw [hR, Plain.opR, hoi, hix, hob, hbx]; rfl
   refine rP ?_;refine rQ iM ?_;refine rP ?_;refine rQ (call_r hline rfl rfl (arg_e arg_nil) (.inl rfl) (fun _ => rfl)) ?_;refine rP ?_;refine rC ?_;refine rP ?_;refine rQ (neq_s (b := s) tab_ok rfl rfl rfl) ?_
   refine rQ iG ?_;refine nS ?_
   by_cases hq : lineP ⟨3, n, t⟩ = s
   ·have e3 : (!decide (lineP ⟨3, n, t⟩ = s)) = false := by rw [dT hq]; rfl
    rw [hR2, if_pos hq]
    refine wF ?_;refine kS ?_;refine sR ?_;refine rQ iM ?_;refine rW ?_;refine rC ?_;refine nS ?_;refine wc_ret ?_
    exact ⟨trivial, _, rfl, [], lf⟩
   ·have e3 : (!decide (lineP ⟨3, n, t⟩ = s)) = true := by rw [dF hq]; rfl
    rw [hR2, if_neg hq]
    refine wT ?_;refine sR ?_;refine rQ iS ?_;refine rW ?_;refine rC ?_;refine nS ?_;refine wc_ret ?_;refine seq_r ?_
    exact ⟨trivial, _, rfl, [], .of rfl rfl rfl rfl rfl ⟨⟨_, rfl, AVLe.tup1 nil_op rfl⟩, rfl, trivial⟩ trivial⟩
theorem rread_4 (s : List UInt8) (hs : s.length ≤ 1048575) (a v x y : List UInt8) (ha : a = sOp) (hw : splitL s 32 = [a, v, x, y]) : FnIs Tryz.prog 99 [.d (strD s)] [] (readA (readR s)) [] := by
 have hcut : FnIs Tryz.prog 69 [.d (strD s), .int .u8 32] [] (.d (.arr 1 strD [a, v, x, y])) [] := by
  have := rcut_is s 32 hs
  rw [hw] at this
  exact this
 have hmem : ∀ q ∈ [a, v, x, y], q.length ≤ s.length := fun q hq => split_mem_le s 32 q (by rw [hw]; exact hq)
 have c0 : decide (a = sRead) = false := dF (by rw [ha]; decide)
 have c1 : decide (a = sWrite) = false := dF (by rw [ha]; decide)
 have c2 : decide (a = sFlush) = false := dF (by rw [ha]; decide)
 have c3 : decide (a = sOp) = true := dT ha
 have g0 : [a, v, x, y][((0 : Int)).toNat]? = some a := rfl
 have g1 : [a, v, x, y][((1 : Int)).toNat]? = some v := rfl
 have g2 : [a, v, x, y][((2 : Int)).toNat]? = some x := rfl
 have g3 : [a, v, x, y][((3 : Int)).toNat]? = some y := rfl
 have hW : wordsR [a, v, x, y] = op4 (kindR v) x y := by rw [ha]; rfl
 have hR := readR_of hw
 rw [hW] at hR
 have hvl := hmem v (by simp)
 have hxl := hmem x (by simp)
 have hyl := hmem y (by simp)
 have hk := rint_is v (by omega)
 have hi := rint_is x (by omega)
 have hb := rbytes_is y (by omega)
 refine fnIs_of tab_ok Tryz.func99 rfl rfl rfl ?_;refine sR ?_;refine rN ?_;refine rC ?_;refine nR ?_;refine rC ?_;refine rQ (call_r hcut rfl rfl (arg_e (arg_e arg_nil)) (.inl rfl) (fun _ => rfl)) ?_
 refine rC ?_;refine nR ?_;refine rQ iS ?_;refine rN ?_;refine rW ?_;refine nR ?_;iterate 2 refine rC ?_
 refine nQ ?_;refine wc_block ?_;refine sR ?_;refine rC ?_;refine rQ iA ?_;refine rQ iL ?_;refine rQ (eql_s (a := a) (b := sRead) tab_ok rfl rfl rfl) ?_;refine rC ?_
 iterate 3 refine rS ?_
 refine rQ iF ?_;refine rC ?_;refine nS ?_;refine wG ?_;refine sR ?_;refine rC ?_;refine rQ iA ?_;refine rQ iL ?_;refine rQ (eql_s (a := a) (b := sWrite) tab_ok rfl rfl rfl) ?_
 refine rC ?_;iterate 3 refine rS ?_
 refine rQ iF ?_;refine rC ?_;refine nS ?_;refine wG ?_;refine sR ?_;refine rC ?_;refine rQ iA ?_;refine rQ iL ?_;refine rQ (eql_s (a := a) (b := sFlush) tab_ok rfl rfl rfl) ?_
 refine rC ?_;iterate 3 refine rS ?_
 refine rQ iF ?_;refine rC ?_;refine nS ?_;refine wG ?_;refine sR ?_;refine rC ?_;refine rQ iA ?_;refine rQ iL ?_;refine rQ (eql_s (a := a) (b := sOp) tab_ok rfl rfl rfl) ?_
 refine rC ?_;refine rO ?_;refine rC ?_;refine rO ?_;refine rQ iE ?_;refine rO ?_;refine rC ?_;refine rQ iT ?_;refine rC ?_;refine nS ?_;refine wV ?_;refine sR ?_
 refine rC ?_;refine rQ iA ?_;refine rQ iL ?_;refine rQ (call_r hk rfl rfl (arg_e arg_nil) (.inl rfl) (fun _ => rfl)) ?_;iterate 5 refine rC ?_
 refine nQ ?_;refine sR ?_;iterate 3 refine rC ?_
 cases hv : intR v with
 | none =>
  have hkr : kindR v = none := by rw [kindR, hv]
  rw [hkr] at hR
  rw [hv] at hk
  rw [hR]
  iterate 2 refine rT ?_
  refine rQ iU ?_;refine rC ?_;iterate 2 refine rT ?_
  refine rQ iU ?_;refine nS ?_;refine wV ?_;refine sR ?_;refine rQ iS ?_;refine rW ?_;refine rC ?_;refine nS ?_;refine wc_ret ?_;refine seq_r ?_;refine blk_r ?_;refine seq_r ?_
  exact ⟨trivial, _, rfl, [], .of rfl rfl rfl rfl rfl ⟨⟨_, rfl, AVLe.tup1 nil_op rfl⟩, rfl, trivial⟩ trivial⟩
 | some k =>
  rw [hv] at hk
  refine rP ?_;refine rC ?_;refine rP ?_;refine rC ?_;refine rQ iG ?_;refine rC ?_
  by_cases q1 : k < 0
  ·have d1 : decide (k < 0) = true := dT q1
   have hkr : kindR v = none := by rw [kindR, hv]; simp [q1]
   rw [hkr] at hR
   rw [hR]
   iterate 2 refine rS ?_
   refine rQ iT ?_;refine nS ?_;refine wV ?_;refine sR ?_;refine rQ iS ?_;refine rW ?_;refine rC ?_;refine nS ?_;refine wc_ret ?_;refine seq_r ?_;refine blk_r ?_;refine seq_r ?_
   exact ⟨trivial, _, rfl, [], .of rfl rfl rfl rfl rfl ⟨⟨_, rfl, AVLe.tup1 nil_op rfl⟩, rfl, trivial⟩ trivial⟩
  have d1 : decide (k < 0) = false := dF q1
  refine rO ?_;refine rC ?_;refine rO ?_;refine rC ?_;refine rQ iF ?_;refine nS ?_
  by_cases q2 : 255 < k
  ·have d2 : decide (255 < k) = true := dT q2
   have hkr : kindR v = none := by rw [kindR, hv]; simp [q2]
   rw [hkr] at hR
   rw [hR]
   refine wT ?_;refine sR ?_;refine rQ iS ?_;refine rW ?_;refine rC ?_;refine nS ?_;refine wc_ret ?_;refine seq_r ?_;refine blk_r ?_;refine seq_r ?_
   exact ⟨trivial, _, rfl, [], .of rfl rfl rfl rfl rfl ⟨⟨_, rfl, AVLe.tup1 nil_op rfl⟩, rfl, trivial⟩ trivial⟩
  have d2 : decide (255 < k) = false := dF q2
  have hkr : kindR v = some k := by rw [kindR, hv]; simp [q1, q2]
  rw [hkr] at hR
  replace hR : readR s = finR s (Plain.opR k x y) := hR
  have hk0 : 0 ≤ k := by omega
  have hk1 : k ≤ 255 := by omega
  have hwk : IntKind.u8.wrap k = k := by
   have := wrap_u8n (a := k.toNat) (by omega)
   rwa [show ((k.toNat : Nat) : Int) = k by omega] at this
  refine wF ?_;refine kS ?_;refine sR ?_;refine rC ?_;refine rQ (conv_int (m := k) tab_ok rfl rfl rfl hwk) ?_;refine rC ?_;refine rX ?_;refine nR ?_;refine rC ?_;refine rQ iA ?_
  refine rQ iL ?_;refine rC ?_;refine nS ?_;refine wc_region ?_;refine rC ?_;refine rQ iA ?_;refine rQ iL ?_;refine rC ?_;refine reg_nil ?_;refine blk_n ?_;refine seq_n ?_
  refine sR ?_;refine rC ?_;refine rQ (call_r hi rfl rfl (arg_e arg_nil) (.inl rfl) (fun _ => rfl)) ?_;iterate 5 refine rC ?_
  refine nR ?_;refine rC ?_;refine rQ (call_r hb rfl rfl (arg_e arg_nil) (.inl rfl) (fun _ => rfl)) ?_;iterate 5 refine rC ?_
  refine nR ?_;iterate 2 refine rC ?_
  refine rX ?_;refine nR ?_;iterate 2 refine rC ?_
  refine rX ?_;refine nQ ?_;refine sR ?_;iterate 3 refine rC ?_
  cases hix : intR x with
  | none =>
   rw [hix] at hi
   have hu : readR s = none := by rw [hR, Plain.opR, hix]; rfl
   rw [hu]
   iterate 2 refine rT ?_
   refine rQ iU ?_;refine rC ?_;iterate 4 refine rT ?_
   refine rQ iU ?_;refine nS ?_;refine wV ?_;refine sR ?_;refine rQ iS ?_;refine rW ?_;refine rC ?_;refine nS ?_;refine wc_ret ?_;refine seq_r ?_
   cases hbx : unhexP y with
   | none =>
    rw [hbx] at hb
    skip
    exact ⟨trivial, _, rfl, [], .of rfl rfl rfl rfl rfl ⟨⟨_, rfl, AVLe.tup1 nil_op rfl⟩, rfl, trivial⟩ trivial⟩
   | some t =>
    rw [hbx] at hb
    skip
    exact ⟨trivial, _, rfl, [], .of rfl rfl rfl rfl rfl ⟨⟨_, rfl, AVLe.tup1 nil_op rfl⟩, rfl, trivial⟩ trivial⟩
  | some n =>
   rw [hix] at hi
   obtain ⟨_, hn0, hn1⟩ := int_some hix
   refine rP ?_;refine rC ?_;refine rP ?_;refine rC ?_;refine rQ iG ?_;refine rC ?_
   cases hbx : unhexP y with
   | none =>
    rw [hbx] at hb
    have hu : readR s = none := by rw [hR, Plain.opR, hix, hbx]; rfl
    rw [hu]
    iterate 4 refine rT ?_
    refine rQ iU ?_;refine nS ?_;refine wV ?_;refine sR ?_;refine rQ iS ?_;refine rW ?_;refine rC ?_;refine nS ?_;refine wc_ret ?_;refine seq_r ?_
    exact ⟨trivial, _, rfl, [], .of rfl rfl rfl rfl rfl ⟨⟨_, rfl, AVLe.tup1 nil_op rfl⟩, rfl, trivial⟩ trivial⟩
   | some t =>
    rw [hbx] at hb
    have htl := unhex_len hbx
    have hline := rline_is ⟨k, n, t⟩ ⟨⟨hk0, hk1⟩, ⟨hn0, hn1⟩⟩ (by show t.length ≤ 1000000000; omega)
    have hR2 : readR s = if lineP ⟨k, n, t⟩ = s then some ⟨k, n, t⟩ else none := by rw [hR, Plain.opR, hix, hbx]; rfl
    refine rP ?_;refine rQ iM ?_;refine rP ?_;refine rQ (call_r hline rfl rfl (arg_e arg_nil) (.inl rfl) (fun _ => rfl)) ?_;refine rP ?_;refine rC ?_;refine rP ?_;refine rQ (neq_s (b := s) tab_ok rfl rfl rfl) ?_
    refine rQ iG ?_;refine nS ?_
    by_cases hq : lineP ⟨k, n, t⟩ = s
    ·have e3 : (!decide (lineP ⟨k, n, t⟩ = s)) = false := by rw [dT hq]; rfl
     rw [hR2, if_pos hq]
     refine wF ?_;refine kS ?_;refine sR ?_;refine rQ iM ?_;refine rW ?_;refine rC ?_;refine nS ?_;refine wc_ret ?_
     exact ⟨trivial, _, rfl, [], lf⟩
    ·have e3 : (!decide (lineP ⟨k, n, t⟩ = s)) = true := by rw [dF hq]; rfl
     rw [hR2, if_neg hq]
     refine wT ?_;refine sR ?_;refine rQ iS ?_;refine rW ?_;refine rC ?_;refine nS ?_;refine wc_ret ?_;refine seq_r ?_
     exact ⟨trivial, _, rfl, [], .of rfl rfl rfl rfl rfl ⟨⟨_, rfl, AVLe.tup1 nil_op rfl⟩, rfl, trivial⟩ trivial⟩
theorem rread_d (s : List UInt8) (hs : s.length ≤ 1048575) (a : List UInt8) (r : List (List UInt8)) (hw : splitL s 32 = a :: r) (h1 : ¬ (a = sRead ∧ r.length = 1)) (h2 : ¬ (a = sWrite ∧ r.length = 2)) (h3 : ¬ (a = sFlush ∧ r.length = 0)) (h4 : ¬ (a = sOp ∧ r.length = 3)) : FnIs Tryz.prog 99 [.d (strD s)] [] (readA (readR s)) [] := by
 have hcut : FnIs Tryz.prog 69 [.d (strD s), .int .u8 32] [] (.d (.arr 1 strD (a :: r))) [] := by
  have := rcut_is s 32 hs
  rw [hw] at this
  exact this
 have g0 : (a :: r)[((0 : Int)).toNat]? = some a := rfl
 have hR := readR_of hw
 rw [show wordsR (a :: r) = none by rw [wordsR, if_neg h1, if_neg h2, if_neg h3, if_neg h4]] at hR
 rw [hR]
 have hl : (a :: r).length = r.length + 1 := rfl
 refine fnIs_of tab_ok Tryz.func99 rfl rfl rfl ?_
 by_cases q0 : a = sRead
 ·have ha := q0
  have l0 : decide (((a :: r).length : Int) = 2) = false := dF fun e => h1 ⟨ha, by omega⟩
  have c0 : decide (a = sRead) = true := dT ha
  have c1 : decide (a = sWrite) = false := dF (by rw [ha]; decide)
  have c2 : decide (a = sFlush) = false := dF (by rw [ha]; decide)
  have c3 : decide (a = sOp) = false := dF (by rw [ha]; decide)
  refine sR ?_;refine rN ?_;refine rC ?_;refine nR ?_;refine rC ?_;refine rQ (call_r hcut rfl rfl (arg_e (arg_e arg_nil)) (.inl rfl) (fun _ => rfl)) ?_;refine rC ?_
  refine nR ?_;refine rQ iS ?_;refine rN ?_;refine rW ?_;refine nR ?_;iterate 2 refine rC ?_
  refine nQ ?_;refine wc_block ?_;refine sR ?_;refine rC ?_;refine rQ iA ?_;refine rQ iL ?_;refine rQ (eql_s (a := a) (b := sRead) tab_ok rfl rfl rfl) ?_;refine rC ?_
  refine rO ?_;refine rC ?_;refine rO ?_;refine rQ iE ?_;refine rO ?_;refine rC ?_;refine rQ iT ?_;refine rC ?_;refine nS ?_;refine wF ?_;refine sR ?_;refine rC ?_
  refine rQ iA ?_;refine rQ iL ?_;refine rQ (eql_s (a := a) (b := sWrite) tab_ok rfl rfl rfl) ?_;refine rC ?_;iterate 3 refine rS ?_
  refine rQ iF ?_;refine rC ?_;refine nS ?_;refine wG ?_;refine sR ?_;refine rC ?_;refine rQ iA ?_;refine rQ iL ?_;refine rQ (eql_s (a := a) (b := sFlush) tab_ok rfl rfl rfl) ?_
  refine rC ?_;iterate 3 refine rS ?_
  refine rQ iF ?_;refine rC ?_;refine nS ?_;refine wG ?_;refine sR ?_;refine rC ?_;refine rQ iA ?_;refine rQ iL ?_;refine rQ (eql_s (a := a) (b := sOp) tab_ok rfl rfl rfl) ?_
  refine rC ?_;iterate 3 refine rS ?_
  refine rQ iF ?_;refine rC ?_;refine nS ?_;refine wG ?_;refine sR ?_;refine rQ iS ?_;refine rW ?_;refine rC ?_;refine nS ?_;refine wc_ret ?_;refine blk_r ?_;refine seq_r ?_
  exact ⟨trivial, _, rfl, [], .of rfl rfl rfl rfl rfl ⟨⟨_, rfl, AVLe.tup1 nil_op rfl⟩, rfl, trivial⟩ trivial⟩
 by_cases q1 : a = sWrite
 ·have ha := q1
  have l1 : decide (((a :: r).length : Int) = 3) = false := dF fun e => h2 ⟨ha, by omega⟩
  have c0 : decide (a = sRead) = false := dF (by rw [ha]; decide)
  have c1 : decide (a = sWrite) = true := dT ha
  have c2 : decide (a = sFlush) = false := dF (by rw [ha]; decide)
  have c3 : decide (a = sOp) = false := dF (by rw [ha]; decide)
  refine sR ?_;refine rN ?_;refine rC ?_;refine nR ?_;refine rC ?_;refine rQ (call_r hcut rfl rfl (arg_e (arg_e arg_nil)) (.inl rfl) (fun _ => rfl)) ?_;refine rC ?_
  refine nR ?_;refine rQ iS ?_;refine rN ?_;refine rW ?_;refine nR ?_;iterate 2 refine rC ?_
  refine nQ ?_;refine wc_block ?_;refine sR ?_;refine rC ?_;refine rQ iA ?_;refine rQ iL ?_;refine rQ (eql_s (a := a) (b := sRead) tab_ok rfl rfl rfl) ?_;refine rC ?_
  iterate 3 refine rS ?_
  refine rQ iF ?_;refine rC ?_;refine nS ?_;refine wG ?_;refine sR ?_;refine rC ?_;refine rQ iA ?_;refine rQ iL ?_;refine rQ (eql_s (a := a) (b := sWrite) tab_ok rfl rfl rfl) ?_
  refine rC ?_;refine rO ?_;refine rC ?_;refine rO ?_;refine rQ iE ?_;refine rO ?_;refine rC ?_;refine rQ iT ?_;refine rC ?_;refine nS ?_;refine wF ?_;refine sR ?_
  refine rC ?_;refine rQ iA ?_;refine rQ iL ?_;refine rQ (eql_s (a := a) (b := sFlush) tab_ok rfl rfl rfl) ?_;refine rC ?_;iterate 3 refine rS ?_
  refine rQ iF ?_;refine rC ?_;refine nS ?_;refine wG ?_;refine sR ?_;refine rC ?_;refine rQ iA ?_;refine rQ iL ?_;refine rQ (eql_s (a := a) (b := sOp) tab_ok rfl rfl rfl) ?_
  refine rC ?_;iterate 3 refine rS ?_
  refine rQ iF ?_;refine rC ?_;refine nS ?_;refine wG ?_;refine sR ?_;refine rQ iS ?_;refine rW ?_;refine rC ?_;refine nS ?_;refine wc_ret ?_;refine blk_r ?_;refine seq_r ?_
  exact ⟨trivial, _, rfl, [], .of rfl rfl rfl rfl rfl ⟨⟨_, rfl, AVLe.tup1 nil_op rfl⟩, rfl, trivial⟩ trivial⟩
 by_cases q2 : a = sFlush
 ·have ha := q2
  have l2 : decide (((a :: r).length : Int) = 1) = false := dF fun e => h3 ⟨ha, by omega⟩
  have c0 : decide (a = sRead) = false := dF (by rw [ha]; decide)
  have c1 : decide (a = sWrite) = false := dF (by rw [ha]; decide)
  have c2 : decide (a = sFlush) = true := dT ha
  have c3 : decide (a = sOp) = false := dF (by rw [ha]; decide)
  refine sR ?_;refine rN ?_;refine rC ?_;refine nR ?_;refine rC ?_;refine rQ (call_r hcut rfl rfl (arg_e (arg_e arg_nil)) (.inl rfl) (fun _ => rfl)) ?_;refine rC ?_
  refine nR ?_;refine rQ iS ?_;refine rN ?_;refine rW ?_;refine nR ?_;iterate 2 refine rC ?_
  refine nQ ?_;refine wc_block ?_;refine sR ?_;refine rC ?_;refine rQ iA ?_;refine rQ iL ?_;refine rQ (eql_s (a := a) (b := sRead) tab_ok rfl rfl rfl) ?_;refine rC ?_
  iterate 3 refine rS ?_
  refine rQ iF ?_;refine rC ?_;refine nS ?_;refine wG ?_;refine sR ?_;refine rC ?_;refine rQ iA ?_;refine rQ iL ?_;refine rQ (eql_s (a := a) (b := sWrite) tab_ok rfl rfl rfl) ?_
  refine rC ?_;iterate 3 refine rS ?_
  refine rQ iF ?_;refine rC ?_;refine nS ?_;refine wG ?_;refine sR ?_;refine rC ?_;refine rQ iA ?_;refine rQ iL ?_;refine rQ (eql_s (a := a) (b := sFlush) tab_ok rfl rfl rfl) ?_
  refine rC ?_;refine rO ?_;refine rC ?_;refine rO ?_;refine rQ iE ?_;refine rO ?_;refine rC ?_;refine rQ iT ?_;refine rC ?_;refine nS ?_;refine wF ?_;refine sR ?_
  refine rC ?_;refine rQ iA ?_;refine rQ iL ?_;refine rQ (eql_s (a := a) (b := sOp) tab_ok rfl rfl rfl) ?_;refine rC ?_;iterate 3 refine rS ?_
  refine rQ iF ?_;refine rC ?_;refine nS ?_;refine wG ?_;refine sR ?_;refine rQ iS ?_;refine rW ?_;refine rC ?_;refine nS ?_;refine wc_ret ?_;refine blk_r ?_;refine seq_r ?_
  exact ⟨trivial, _, rfl, [], .of rfl rfl rfl rfl rfl ⟨⟨_, rfl, AVLe.tup1 nil_op rfl⟩, rfl, trivial⟩ trivial⟩
 by_cases q3 : a = sOp
 ·have ha := q3
  have l3 : decide (((a :: r).length : Int) = 4) = false := dF fun e => h4 ⟨ha, by omega⟩
  have c0 : decide (a = sRead) = false := dF (by rw [ha]; decide)
  have c1 : decide (a = sWrite) = false := dF (by rw [ha]; decide)
  have c2 : decide (a = sFlush) = false := dF (by rw [ha]; decide)
  have c3 : decide (a = sOp) = true := dT ha
  refine sR ?_;refine rN ?_;refine rC ?_;refine nR ?_;refine rC ?_;refine rQ (call_r hcut rfl rfl (arg_e (arg_e arg_nil)) (.inl rfl) (fun _ => rfl)) ?_;refine rC ?_
  refine nR ?_;refine rQ iS ?_;refine rN ?_;refine rW ?_;refine nR ?_;iterate 2 refine rC ?_
  refine nQ ?_;refine wc_block ?_;refine sR ?_;refine rC ?_;refine rQ iA ?_;refine rQ iL ?_;refine rQ (eql_s (a := a) (b := sRead) tab_ok rfl rfl rfl) ?_;refine rC ?_
  iterate 3 refine rS ?_
  refine rQ iF ?_;refine rC ?_;refine nS ?_;refine wG ?_;refine sR ?_;refine rC ?_;refine rQ iA ?_;refine rQ iL ?_;refine rQ (eql_s (a := a) (b := sWrite) tab_ok rfl rfl rfl) ?_
  refine rC ?_;iterate 3 refine rS ?_
  refine rQ iF ?_;refine rC ?_;refine nS ?_;refine wG ?_;refine sR ?_;refine rC ?_;refine rQ iA ?_;refine rQ iL ?_;refine rQ (eql_s (a := a) (b := sFlush) tab_ok rfl rfl rfl) ?_
  refine rC ?_;iterate 3 refine rS ?_
  refine rQ iF ?_;refine rC ?_;refine nS ?_;refine wG ?_;refine sR ?_;refine rC ?_;refine rQ iA ?_;refine rQ iL ?_;refine rQ (eql_s (a := a) (b := sOp) tab_ok rfl rfl rfl) ?_
  refine rC ?_;refine rO ?_;refine rC ?_;refine rO ?_;refine rQ iE ?_;refine rO ?_;refine rC ?_;refine rQ iT ?_;refine rC ?_;refine nS ?_;refine wF ?_;refine sR ?_
  refine rQ iS ?_;refine rW ?_;refine rC ?_;refine nS ?_;refine wc_ret ?_;refine blk_r ?_;refine seq_r ?_
  exact ⟨trivial, _, rfl, [], .of rfl rfl rfl rfl rfl ⟨⟨_, rfl, AVLe.tup1 nil_op rfl⟩, rfl, trivial⟩ trivial⟩
 have c0 : decide (a = sRead) = false := dF q0
 have c1 : decide (a = sWrite) = false := dF q1
 have c2 : decide (a = sFlush) = false := dF q2
 have c3 : decide (a = sOp) = false := dF q3
 refine sR ?_;refine rN ?_;refine rC ?_;refine nR ?_;refine rC ?_;refine rQ (call_r hcut rfl rfl (arg_e (arg_e arg_nil)) (.inl rfl) (fun _ => rfl)) ?_;refine rC ?_
 refine nR ?_;refine rQ iS ?_;refine rN ?_;refine rW ?_;refine nR ?_;iterate 2 refine rC ?_
 refine nQ ?_;refine wc_block ?_;refine sR ?_;refine rC ?_;refine rQ iA ?_;refine rQ iL ?_;refine rQ (eql_s (a := a) (b := sRead) tab_ok rfl rfl rfl) ?_;refine rC ?_
 iterate 3 refine rS ?_
 refine rQ iF ?_;refine rC ?_;refine nS ?_;refine wG ?_;refine sR ?_;refine rC ?_;refine rQ iA ?_;refine rQ iL ?_;refine rQ (eql_s (a := a) (b := sWrite) tab_ok rfl rfl rfl) ?_
 refine rC ?_;iterate 3 refine rS ?_
 refine rQ iF ?_;refine rC ?_;refine nS ?_;refine wG ?_;refine sR ?_;refine rC ?_;refine rQ iA ?_;refine rQ iL ?_;refine rQ (eql_s (a := a) (b := sFlush) tab_ok rfl rfl rfl) ?_
 refine rC ?_;iterate 3 refine rS ?_
 refine rQ iF ?_;refine rC ?_;refine nS ?_;refine wG ?_;refine sR ?_;refine rC ?_;refine rQ iA ?_;refine rQ iL ?_;refine rQ (eql_s (a := a) (b := sOp) tab_ok rfl rfl rfl) ?_
 refine rC ?_;iterate 3 refine rS ?_
 refine rQ iF ?_;refine rC ?_;refine nS ?_;refine wG ?_;refine sR ?_;refine rQ iS ?_;refine rW ?_;refine rC ?_;refine nS ?_;refine wc_ret ?_;refine blk_r ?_;refine seq_r ?_
 exact ⟨trivial, _, rfl, [], .of rfl rfl rfl rfl rfl ⟨⟨_, rfl, AVLe.tup1 nil_op rfl⟩, rfl, trivial⟩ trivial⟩
theorem rread_is (s : List UInt8) (hs : s.length ≤ 1048575) : FnIs Tryz.prog 99 [.d (strD s)] [] (readA (readP s)) [] := by
 rw [← read_same]
 cases hw : splitL s 32 with
 | nil => exact absurd hw (splitL_ne s 32)
 | cons a r =>
  by_cases h1 : a = sRead ∧ r.length = 1
  ·obtain ⟨x, rfl⟩ := List.length_eq_one_iff.1 h1.2
   exact rread_1 s hs a x h1.1 hw 1 rfl
  by_cases h2 : a = sWrite ∧ r.length = 2
  ·match r, h2.2, hw with
   | [x, y], _, hw => exact rread_2 s hs a x y h2.1 hw 2 rfl
  by_cases h3 : a = sFlush ∧ r.length = 0
  ·obtain rfl := List.eq_nil_of_length_eq_zero h3.2
   exact rread_3 s hs a h3.1 hw 3 rfl
  by_cases h4 : a = sOp ∧ r.length = 3
  ·match r, h4.2, hw with
   | [v, x, y], _, hw => exact rread_4 s hs a v x y h4.1 hw
  exact rread_d s hs a r hw h1 h2 h3 h4
end Go.Proofs.YtmojbghcngdkpaaGreatDoor
namespace Go.Eng
open Go.RowKit Go.Sort
abbrev encI64 (n : Int) : D := .sc (.int .i64 n)
variable {P : Program}
end Go.Eng
namespace Go.Eng
open Go.RowKit
variable {P : Program} {f : FuncId} {avs avs' : List AV} {h0 : List (Nat × Row)} {res : AV}
def Tells (avs : List AV) (h0 : List (Nat × Row)) (avs' : List AV) (h0' : List (Nat × Row)) : Prop :=
 ∀ (C : Ctx) (G : Nat → Prop) (σ : Place) (w : World) (a : Act), StRel C G (inSt avs h0) σ w a → StRel C G (inSt avs' h0') σ w a
def FreeRes (res : AV) : Prop := (∀ (σ σ' : Place) (w w' : World) (X X' : Nat → Prop) (v : Value), RelV σ w X res v → RelV σ' w' X' res v) ∧ ∀ G : Nat → Prop, res.within G
end Go.Eng
namespace Go.Eng
open Go.RowKit
theorem Frz.row_le {r : Nat} {row row' : Row} {a a' : AV} (h : RowLe row row') (hf : Frz r row' a a') : Frz r row a a' :=
 ⟨hf.1, hf.2.1, hf.2.2.1, fun σ w X X' hx hn hr cs hc => hf.2.2.2 σ w X X' hx hn (h σ w X r hr) cs hc⟩
end Go.Eng
namespace Go.Proofs.YtmojbghcngdkpaaGreatDoor
open Go.Eng Go.Plain
set_option maxHeartbeats 4000000
set_option maxRecDepth 20000
set_option linter.unusedVariables false
attribute [local irreducible] WC RegS RegD SeqQ BlkQ ScoQ RegK CutK Sat SatN FnIs LoopQ StepIs OpIs
abbrev rpR (x : List (List POp) × Nat × Int) : AV := .tup (.acons (.d (encPL x.1)) (.acons (.int .i64 (x.2.1 : Nat)) (.acons (.int .i64 x.2.2) .anil)))
@[reducible] noncomputable def qSt (s : List UInt8) (W : List (List UInt8)) : Option (List (List POp) × List POp) × Nat → St
 | (none, i) => ⟨[(7, .int .i64 i), (6, .d (.sc nil_)), (5, .d (.arr 1 strD W))], [], 72, Tryz.f50.ntmps, 64⟩
 | (some (l, p), i) => ⟨[(7, .int .i64 i), (6, .own 65 0 (l.length + 1) 1 none), (5, .d (.arr 1 strD W))], [(65, some (rowL p l (l.length + 1) 66)), (66, some (rowP p))], 72, Tryz.f50.ntmps, 64⟩
def QInv (W : List (List UInt8)) : Option (List (List POp) × List POp) × Nat → Prop
 | (q, i) => i ≤ W.length ∧ parseR (W.drop i) i (toL q) = parseR W 0 [] ∧ chkP (toL q) = 0
end Go.Proofs.YtmojbghcngdkpaaGreatDoor
namespace Go.Plain
open Go.Lib
abbrev sortI (l : List Int) : List Int := l.mergeSort fun x y => decide (x ≤ y)
end Go.Plain
namespace Go.Proofs.YtmojbghcngdkpaaGreatDoor
open Go.Eng Go.Plain Go.Lib
def insL (n : Int) : List Int → List Int
 | [] => [n]
 | x :: l => if n ≤ x then n :: (x :: l).filter (fun y => decide (y ≠ n)) else x :: insL n l
def wOut (n : Int) (s : List Int × Bool) : List Int := if s.2 = true then s.1 else s.1 ++ [n]
def idxL (b : Int) (l : List POp) : List Int := (l.filter (touB b)).map POp.index
end Go.Proofs.YtmojbghcngdkpaaGreatDoor
namespace Go.Proofs.YtmojbghcngdkpaaGreatDoor
open Go.Eng Go.Plain Go.RowKit
set_option maxHeartbeats 4000000
set_option maxRecDepth 20000
attribute [local irreducible] WC RegS RegD SeqQ BlkQ ScoQ RegK CutK Sat SatN FnIs LoopQ StepIs OpIs
end Go.Proofs.YtmojbghcngdkpaaGreatDoor
namespace Go.Proofs.YtmojbghcngdkpaaGreatDoor
open Go.Eng Go.Plain
set_option maxHeartbeats 4000000
set_option maxRecDepth 20000
attribute [local irreducible] WC RegS RegD SeqQ BlkQ ScoQ RegK CutK Sat SatN FnIs LoopQ StepIs OpIs
@[reducible] def accA : List Int → AV
 | [] => .d (.sc nil_)
 | x :: xs => .own 65 0 (xs.length + 1) 1 none
@[reducible] def accH : List Int → Upds
 | [] => []
 | x :: xs => [(65, some (rowI (x :: xs)))]
@[reducible] noncomputable def tS1 (l : List (List POp)) (b : Int) (a : List Int × Nat) : St := ⟨[(12, .int .i64 a.2), (11, .int .i64 l.length), (10, .d (encPL l)), (5, accA a.1), (1, .int .i64 b)], accH a.1, 72, Tryz.f43.ntmps, 64⟩
@[reducible] noncomputable def tS2 (l : List (List POp)) (b : Int) (i : Nat) (p : List POp) (a : List Int × Nat) : St := ⟨[(18, .int .i64 a.2), (17, .int .i64 p.length), (16, .d (encP p)), (12, .int .i64 i), (11, .int .i64 l.length), (10, .d (encPL l)), (5, accA a.1), (1, .int .i64 b)], accH a.1, 72, Tryz.f43.ntmps, 64⟩
def encV : Bool × POp → D
 | (true, o) => .cons (u8s o.kind) (.cons (i6 o.index) (.cons (.sc nil_) .nil))
 | (false, o) => encPOp o
def VOk (x : Bool × POp) : Prop := x.1 = true → x.2.data = []
theorem dle_arr {α β : Type} {s : Nat} {enc : α → D} {enc' : β → D} {g : α → β} {xs : List α} {ys : List β} (hy : ys = xs.map g) (h : ∀ x ∈ xs, DLe (enc x) (enc' (g x))) : DLe (.arr s enc xs) (.arr s enc' ys) := by
 subst hy
 rintro w X cs (⟨rfl, rfl⟩ | ⟨a, c, rfl, h1, h2, f, hf⟩)
 ·exact .inl ⟨rfl, rfl⟩
 ·refine .inr ⟨a, c, by rw [List.length_map], by rw [List.length_map]; exact h1, h2, f, fun i hi => ?_⟩
  rw [List.length_map] at hi
  obtain ⟨g1, g2, g3⟩ := hf i hi
  refine ⟨?_, g2, g3⟩
  rw [List.getElem_map]
  exact h _ (List.getElem_mem _) _ _ _ g1
abbrev encPV (l : List (Bool × POp)) : D := .arr 3 encV l
def pairV : List (List (Bool × POp)) := [[(true, ⟨1, 3, []⟩), (false, ⟨2, 1, [0, 255]⟩)], [(true, ⟨3, 0, []⟩)]]
def pairL : List (List POp) := [[⟨1, 3, []⟩, ⟨2, 1, [0, 255]⟩], [⟨3, 0, []⟩]]
abbrev vA : Bool × POp := (true, ⟨1, 3, []⟩)
abbrev vB : Bool × POp := (false, ⟨2, 1, [0, 255]⟩)
abbrev vC : Bool × POp := (true, ⟨3, 0, []⟩)
abbrev vAB : List (Bool × POp) := [vA, vB]
abbrev vC1 : List (Bool × POp) := [vC]
structure PQ where
 kind : UInt8
 index : UInt8
 data : UInt8
def encQ (x : PQ) : D := .cons (u8s x.kind.toNat) (.cons (u8s x.index.toNat) (.cons (u8s x.data.toNat) .nil))
def qOf (x : PQ) : POp :=
 if x.kind.toNat % 9 < 4 then ⟨1, ((x.index.toNat % 22 : Nat) : Int) - 1, []⟩
 else if x.kind.toNat % 9 < 7 then ⟨2, ((x.index.toNat % 22 : Nat) : Int) - 1, List.replicate 32 x.data⟩
 else if x.kind.toNat % 9 = 8 then ⟨((x.data.toNat % 4 : Nat) : Int), (x.index.toNat : Int) - 100, List.replicate (x.index.toNat % 32) x.data⟩
 else ⟨3, 0, []⟩
def fillL (d : Int) (n i : Nat) : List Int := List.replicate i d ++ List.replicate (n - i) 0
theorem fillL_get {d : Int} {n i : Nat} (h : i < n) : (fillL d n i)[i]? = some 0 := by
 obtain ⟨k, hk⟩ : ∃ k, n - i = k + 1 := ⟨n - i - 1, by omega⟩
 rw [fillL, hk, List.getElem?_append_right (by simp), List.length_replicate, Nat.sub_self]
 rfl
theorem fillL_set {d : Int} {n i : Nat} (h : i < n) : (fillL d n i).set i d = fillL d n (i + 1) := by
 obtain ⟨k, hk⟩ : ∃ k, n - i = k + 1 := ⟨n - i - 1, by omega⟩
 rw [fillL, fillL, List.set_append_right _ _ (by simp), List.replicate_succ' (n := i), List.append_assoc, hk, show n - (i + 1) = k by omega, List.length_replicate, Nat.sub_self]
 rfl
theorem fillL_end (d : UInt8) (n : Nat) : fillL d.toNat n n = byI (List.replicate n d) := by simp [fillL, byI]
abbrev encQs (q : List PQ) : D := .arr 3 encQ q
def encPP (l : List (List PQ)) : D := .cons (.arr 1 encQs l) .nil
def opsOf (q : List PQ) : List POp := (q.take 3).map qOf
def pOf (l : List (List PQ)) : List (List POp) := (l.take 3).map opsOf
end Go.Proofs.YtmojbghcngdkpaaGreatDoor
namespace Go.Eng
open Go.RowKit
variable {P : Program} {op : Op} {env : Env} {h : Upds} {n : Nat} {av av' : AV} {row : Row}
theorem StepIs.frozen (hs : StepIs P op env h n (some av) [(n, some row)]) (hf : Frz n row av av') : StepIs P op env h n (some av') [] := by
 intro C G st σ w a o ho hA hd hst hn hb next Q hnext
 refine hs C G st σ w a o ho hA hd hst hn hb next Q fun x w' σ' G' hst' h1 h2 => ?_
 have hnr : ∀ q row', st.row q = some row' → q ≠ n := fun q row' hq e => by
  subst e
  exact hn q (Nat.le_refl _) (by omega) (hst.rowsG _ _ hq).1
 have hrow : (st.put o.dst (some av) [(n, some row)]).row n = some row := by
  simp [St.put, St.row, lk_cons]
 have hrow2 : ∀ q row', q ≠ n → st.row q = some row' → (st.put o.dst (some av) [(n, some row)]).row q = some row' := fun q row' hq hr => by
  simp only [St.put, St.row, List.cons_append, List.nil_append, lk_cons, if_neg (Ne.symm hq)]
  exact hr
 refine hnext x w' σ' G' (hst'.freeze (st' := st.put o.dst (some av') []) n row hrow (fun i v' hi => ?_) (fun q x' hq => ?_) rfl rfl) h1 h2
 ·cases hdst : o.dst with
  | none =>
   simp only [St.put, hdst] at hi ⊢
   exact ⟨v', hi, .refl _⟩
  | some d =>
   simp only [St.put, hdst, lk_cons] at hi ⊢
   split at hi
   ·rename_i e
    rw [if_pos e]
    simp only [Option.some.injEq] at hi
    exact ⟨av, rfl, by rw [← hi]; exact hf⟩
   ·rename_i e
    rw [if_neg e]
    exact ⟨v', hi, .refl _⟩
 ·have hq' : st.row q = some x' := hq
  exact ⟨hnr q x' hq', x', hrow2 q x' (hnr q x' hq') hq', .refl _⟩
end Go.Eng
namespace Go.Eng
open Go.RowKit
variable {P : Program} {T : Tab} {env : Env} {h : Upds} {n : Nat}
def offsA (e s : Nat) : Nat → List (Nat × Nat)
 | 0 => []
 | k + 1 => offsA e s k ++ [(k * s, e)]
theorem offsA_len (e s : Nat) : ∀ k, (offsA e s k).length = k
 | 0 => rfl
 | k + 1 => by rw [offsA, List.length_append, offsA_len e s k]; rfl
theorem offsA_get {e s : Nat} : ∀ (m k o t : Nat), (offsA e s m)[k]? = some (o, t) → t = e ∧ o = k * s
 | 0, k, o, t, h => by simp [offsA] at h
 | m + 1, k, o, t, h => by
  rw [offsA] at h
  rcases Nat.lt_or_ge k m with hk | hk
  ·rw [List.getElem?_append_left (by rw [offsA_len]; exact hk)] at h
   exact offsA_get m k o t h
  ·rw [List.getElem?_append_right (by rw [offsA_len]; exact hk), offsA_len] at h
   have : k - m = 0 := by
    rcases Nat.eq_zero_or_pos (k - m) with e | e
    ·exact e
    ·rw [List.getElem?_eq_none (by simp; omega)] at h; cases h
   rw [this] at h
   simp only [List.getElem?_cons_zero, Option.some.injEq, Prod.mk.injEq] at h
   have e : k = m := by omega
   subst e
   exact ⟨h.2.symm, h.1.symm⟩
theorem build_arr (hT : TabOk P T) {t e len : Nat} {r re : TyR} {parts : Array (Nat × Operand)} {q : AV} (ht : lk T t = some r) (hd : r.desc = .array len e) (he : lk T e = some re) (hq : buildF T (offsA e re.size len) (evalA env) parts.toList (.d r.zero) = some q) (hag : q.isAgg = true) :
  StepIs P (.build t parts) env h n (some q) [] := .of_comes fun C G st σ w a o ho hA hdst hst hn => by
 obtain ⟨u, hu, hdu⟩ := (hT t r ht).und
 rw [hd] at hdu
 cases hdu
 obtain ⟨z, hz, hzc⟩ := (hT t r ht).run_zero w
 have henc : Rel σ w (st.X C.X0 σ) (.d r.zero) false z.cells.toList := by rw [← hzc]; exact Enc.closed _ _ _ (hT t r ht).zero
 obtain ⟨cs', hfill, h1, h2, h3⟩ := buildF_sound hT hst hA (pl := fun k => some (k * re.size, re.size)) (fun k o t' r' ho hr' => by
  obtain ⟨rfl, rfl⟩ := offsA_get _ _ _ _ ho
  rw [he] at hr'
  cases hr'
  rfl) parts.toList (.d r.zero) q z.cells.toList hq rfl trivial henc
 refine .quiet (u := .agg cs'.toArray) hst hdst ⟨rfl, rfl⟩ ?_ (by unfold RelV; rw [if_pos hag]; exact ⟨cs', rfl, h1⟩) h3
 have hcs : z.cells.toList.toArray = z.cells := by simp
 have hpt : (parts.map fun x => (x.1, a.eval x.2)).toList = parts.toList.map fun x => (x.1, a.eval x.2) := by simp
 rw [hcs, ← hpt] at hfill
 have hb : (Instr.build t (parts.map fun x => (x.1, a.eval x.2))).run P w = .ok (.agg cs'.toArray) w := by
  simp only [Instr.build, Sem.run_bind, hz, Result.andThen_ok, run_underlying hu, (hT e re he).run_size, hfill, Sem.run_pure]
 simp only [execOp, ho, Sem.run_bind]
 rw [show (parts.map fun (x : Nat × Operand) => match x with | (i, x) => (i, a.eval x)) = parts.map fun x => (x.1, a.eval x.2) from rfl, hb]
 rfl
end Go.Eng
namespace Go.Proofs.YtmojbghcngdkpaaGreatDoor
open Go.Eng Go.Plain
def tx1 : List UInt8 := [99, 108, 105, 101, 110, 116, 10, 114, 101, 97, 100, 32, 51, 10, 119, 114, 105, 116, 101, 32, 49, 32, 48, 48, 102, 102, 10, 99, 108, 105, 101, 110, 116, 10, 102, 108, 117, 115, 104, 10]
def tx2 : List UInt8 := [99, 108, 105, 101, 110, 116, 10, 111, 112, 32, 51, 32, 55, 32, 45, 10, 119, 114, 105, 116, 101, 32, 48, 32, 45, 10, 111, 112, 32, 49, 32, 49, 32, 48, 97, 10]
def list2 : List (List POp) := [[⟨3, 7, []⟩, ⟨2, 0, []⟩, ⟨1, 1, [10]⟩]]
abbrev vD : Bool × POp := (true, ⟨3, 7, []⟩)
abbrev vE : Bool × POp := (true, ⟨2, 0, []⟩)
abbrev vF : Bool × POp := (false, ⟨1, 1, [10]⟩)
abbrev list2V : List (List (Bool × POp)) := [[vD, vE, vF]]
def px0 : List UInt8 := [99, 108, 105, 101, 110, 116, 10, 114, 101, 97, 100, 32, 51]
def px1 : List UInt8 := [99, 108, 105, 101, 110, 116, 10, 111, 112, 32, 49, 32, 51, 32, 45, 10]
def px2 : List UInt8 := [114, 101, 97, 100, 32, 51, 10]
def px3 : List UInt8 := [99, 108, 105, 101, 110, 116, 10, 114, 101, 97, 100, 32, 48, 51, 10]
def okB (o : POp) : Bool := decide (0 ≤ o.kind) && decide (o.kind ≤ 255) && decide (-9223372036854775808 ≤ o.index) && decide (o.index ≤ 9223372036854775807)
def trip : List (List POp) := pairL ++ [[⟨2, 1, List.replicate 32 0⟩]]
end Go.Proofs.YtmojbghcngdkpaaGreatDoor
namespace Go.Proofs.YtmojbghcngdkpaaGreatDoor
open Go.Eng Go.Plain
set_option maxHeartbeats 4000000
set_option maxRecDepth 20000
attribute [local irreducible] WC RegS RegD SeqQ BlkQ ScoQ RegK CutK Sat SatN FnIs LoopQ StepIs OpIs
abbrev vW : Bool × POp := (false, ⟨2, 1, List.replicate 32 0⟩)
abbrev vW1 : List (Bool × POp) := [vW]
end Go.Proofs.YtmojbghcngdkpaaGreatDoor
namespace Go.Proofs.YtmojbghcngdkpaaGreatDoor
open Go.Eng Go.Plain
set_option maxHeartbeats 4000000
set_option maxRecDepth 20000
set_option linter.unusedVariables false
attribute [local irreducible] WC RegS RegD SeqQ BlkQ ScoQ RegK CutK Sat SatN FnIs LoopQ StepIs OpIs
def one (b : Bool) : Int := if b = true then 1 else 0
end Go.Proofs.YtmojbghcngdkpaaGreatDoor
namespace Go.Proofs.YtmojbghcngdkpaaGreatDoor
open Go.Eng Go.Plain
def toB (l : List Int) : List UInt8 := l.map fun z => z.toNat.toUInt8
end Go.Proofs.YtmojbghcngdkpaaGreatDoor
namespace Go.Proofs.YtmojbghcngdkpaaGreatDoor
open Go.ChangeShapes Go.WideShapes Go.ChangeAt Go.RowKit Go.Eng
theorem own : ownKnob Tryz.prog.godebug = none := by kernel_rfl
theorem laidOut : laidOutB Tryz.prog = true := by kernel_rfl
theorem gPow : Tryz.prog.globalNamed "internal/strconv.uint64pow10" = some 3 := by kernel_rfl
theorem gSyn : Tryz.prog.globalNamed "strconv.ErrSyntax" = some 1 := by kernel_rfl
theorem gRan : Tryz.prog.globalNamed "strconv.ErrRange" = some 2 := by kernel_rfl
theorem tPow : (Tryz.prog.globals[3]?).map (·.type) = some 253 := by kernel_rfl
theorem tSyn : (Tryz.prog.globals[1]?).map (·.type) = some 122 := by kernel_rfl
theorem tRan : (Tryz.prog.globals[2]?).map (·.type) = some 122 := by kernel_rfl
theorem block_of_var {P : Program} {w : World} {n : String} {g : Nat} {cs : Array Value} (hg : P.globalNamed n = some g) (h : w.var? P n = some cs) : ∃ t fr, w.heap[g]? = some (.cells cs t fr) := by
 unfold World.var? at h
 rw [hg] at h
 simp only [Option.bind_some] at h
 split at h
 ·rename_i t fr hh
  cases h
  exact ⟨_, _, hh⟩
 ·cases h
theorem globs_of {W : World} (hL : laidMetH Tryz.prog Rows.programsSameRow.laid W) (hsh : W.ShapedOpen Tryz.prog) : ∀ x ∈ globs, x.2 (W.heap[x.1]?) ∧ x.1 < W.heap.size := by
 rw [MakeChecks.laidMetH_plain _ _ _ (by kernel_rfl)] at hL
 obtain ⟨ps, ⟨_, _, _, _, _, _, _, _, _, _, ⟨_, _, _, _, _, _, _, _, _, _, ⟨g3, t3, cs3, f3, p3, q3, hg3, ht3, hv3, hd3, ⟨_, _, _, _, _, _, _, _, _, _, ⟨g2, t2, cs2, f2, p2, q2, hg2, ht2, hv2, hd2, ⟨g1, t1, cs1, f1, p1, q1, hg1, ht1, hv1, hd1, _, _⟩, _⟩, _⟩, _⟩, _⟩, _⟩, _, _⟩ := hL
 obtain rfl := Option.some.inj (gPow.symm.trans hg3)
 obtain rfl := Option.some.inj (gRan.symm.trans hg2)
 obtain rfl := Option.some.inj (gSyn.symm.trans hg1)
 obtain rfl := Option.some.inj (tPow.symm.trans ht3)
 obtain rfl := Option.some.inj (tRan.symm.trans ht2)
 obtain rfl := Option.some.inj (tSyn.symm.trans ht1)
 obtain ⟨_, u2, v2, hc2, _, _⟩ := iface_of_trod Tryz.underlying122 hd2
 obtain ⟨_, u1, v1, hc1, _, _⟩ := iface_of_trod Tryz.underlying122 hd1
 have hc3 : cs3.toList = Lib.pow10Tab.map fun z => Value.int .u64 z := Lib.cells_of_tab (zs := Lib.pow10Tab) Tryz.underlying253 Tryz.underlying212 (by kernel_rfl) (by kernel_rfl) hd3
 obtain ⟨a3, b3, hb3⟩ := block_of_var gPow hv3
 obtain ⟨a2, b2, hb2⟩ := block_of_var gRan hv2
 obtain ⟨a1, b1, hb1⟩ := block_of_var gSyn hv1
 obtain ⟨cs0, hh0, hs0, hr0⟩ := hsh.1 0 #[.int .i64 0] 3 (of_decide_eq_true (by kernel_rfl)) (by kernel_rfl)
 obtain ⟨m, hm⟩ := cell_of_shapedOpen_int (g := 0) (zero := #[.int .i64 0]) (t := 3) hsh (of_decide_eq_true (by kernel_rfl)) (by kernel_rfl) rfl (by kernel_rfl) (by kernel_rfl) Tryz.underlying3
 have he0 : ∃ fr, W.heap[0]? = some (.cells #[.int .i64 m] 3 fr) := by
  have h1 : cs0[0]? = some (.int .i64 m) := by
   have := hm
   simp only [World.cell?, hh0] at this
   exact this
  have h2 : cs0 = #[.int .i64 m] := by
   apply Array.ext'
   obtain ⟨l⟩ := cs0
   have hl : l.length = 1 := by simpa using hs0
   match l, hl, h1 with
   | [x], _, h1 => simpa using h1
  exact ⟨_, by rw [hh0, h2]⟩
 obtain ⟨fr0, he0⟩ := he0
 have e1 : cs1 = #[.iface u1 v1] := Array.ext' hc1
 have e2 : cs2 = #[.iface u2 v2] := Array.ext' hc2
 have e3 : cs3 = (Lib.pow10Tab.map fun z => Value.int .u64 z).toArray := Array.ext' (by simpa using hc3)
 intro x hx
 simp only [globs, List.mem_cons, List.not_mem_nil, or_false] at hx
 rcases hx with rfl | rfl | rfl | rfl
 ·exact ⟨⟨m, 3, fr0, he0⟩, (Array.getElem?_eq_some_iff.1 he0).1⟩
 ·refine ⟨⟨.iface u1 v1, a1, b1, ?_, .inr ⟨u1, v1, rfl⟩⟩, (Array.getElem?_eq_some_iff.1 hb1).1⟩
  rw [hb1, e1]
 ·refine ⟨⟨.iface u2 v2, a2, b2, ?_, .inr ⟨u2, v2, rfl⟩⟩, (Array.getElem?_eq_some_iff.1 hb2).1⟩
  rw [hb2, e2]
 ·refine ⟨⟨a3, b3, ?_⟩, (Array.getElem?_eq_some_iff.1 hb3).1⟩
  rw [hb3, e3]
theorem handed_of {H : Type} {enc : TypeId × Value → H} {a : Assume} {C : Checked} {os : Os} {f : FuncId} {fn : Func} {s : ChangeSpec} {conds : List PathCond} {apart fresh handsOn again : Bool} {X : World → Array Value → Prop}
  (hX : ∀ (w w' : World) (args : Array Value), w.heap = w'.heap → X w args → X w' args)
  (own : ownKnob C.prog.godebug = none) (started : os.Started) (noInit : C.prog.inits.idxOf? f = none) (hfn : C.prog.funcs[f]? = some fn)
  (witness : ∃ (w : World) (tape : Tape) (i : Input), w.os = os ∧ (w.forCall tape i).Shaped C.prog ∧ i.vars = [] ∧ Input.okWide C.prog (w.forCall tape i) .any w.heap.size f i ∧
   ((s.pre enc C.prog fn conds apart (w.forCall tape i).memory i.args ∧ X (w.forCall tape i).memory i.args) ∧ sizedMet enc C.prog fn (OpenSpec.ofChange s) apart (w.forCall tape i).memory i.args) ∧ a.holds C.prog (lone (Frame.enter C.prog f i.args .normal) [] (w.forCall tape i)))
  (contract : ∀ (W : World) (base : Nat) (args : Array Value) (ds gs : List (DataW H)) (before : List MemPlace),
   (∀ (j : Nat) t v, fn.params[j]? = some t → args[j]? = some v → Value.okWide C.prog W .any base t v) →
   DataW.Whole enc C.prog fn.params.toList s.vars apart W args.toList ds gs before →
   X W args → W.ShapedOpen C.prog →
   Calls C.prog f args W fun e W' => ∃ v, e = .returned v ∧ s.post enc C.prog fn apart fresh handsOn again W args v W') :
  ReturnsInHanded a C os f .any (fun w args => (s.pre enc C.prog fn conds apart w args ∧ X w args) ∧ sizedMet enc C.prog fn (OpenSpec.ofChange s) apart w args) (s.post enc C.prog fn apart fresh handsOn again) := by
 refine returnsInHanded_of_calls own started noInit witness ?_
 intro w tape i _ hsh _ hok hpre _
 obtain ⟨_, _, _, fn', hfn', _, _, _, _, hval⟩ := hok
 have e : fn' = fn := Option.some.inj (hfn'.symm.trans hfn)
 subst e
 obtain ⟨⟨⟨ds, gs, before, hw, hc⟩, hx⟩, hz⟩ := hpre
 have hw' := DataW.Whole.of_heap (w' := w.forCall tape i) (by rfl) hw
 refine (contract (w.forCall tape i) w.heap.size i.args ds gs before hval hw' (hX _ _ _ (by rfl) hx) hsh).mono fun e W' ⟨v, he, hp⟩ => ?_
 subst he
 exact ChangeSpec.post_blind hp
end Go.Proofs.YtmojbghcngdkpaaGreatDoor
namespace Go.Proofs.YtmojbghcngdkpaaGreatDoor
open Go
theorem and2 {a b : Bool} (h : a = true) (k : b = true) : (a && b) = true := by rw [h, k]; rfl
theorem pf_maps : mapsRowed Tryz.prog = true := by kernel_rfl
theorem pf_keys : (Rows.programsSameRow.plainKeys == Tryz.prog.plainKeys) = true := by kernel_rfl
theorem pf_heard : Tryz.prog.stopsHeard = true := by kernel_rfl
theorem pf_enter : Tryz.prog.mayEnter = true := by kernel_rfl
theorem pf_lifts : (Rows.programsSameRow.lifted == Tryz.prog.liftsFinal) = true := by kernel_rfl
theorem pf_make : (Tryz.prog.make == some Rows.programsSameRow.make) = true := by kernel_rfl
end Go.Proofs.YtmojbghcngdkpaaGreatDoor
namespace Go.Proofs.YtmojbghcngdkpaaGreatDoor
open Go.Eng Go.Plain
abbrev encBk (l : List UInt8) : D := .vec 32 1 encU8 (byI l)
structure HEv where
 kind : Int
 client : Int
 op : POp
 value : List UInt8
 err : Int
 deriving DecidableEq
structure HEv.Ok (x : HEv) : Prop where
 kind : 0 ≤ x.kind ∧ x.kind ≤ 255
 client : -9223372036854775808 ≤ x.client ∧ x.client ≤ 9223372036854775807
 op : x.op.Ok
 value : x.value.length = 32
 err : -9223372036854775808 ≤ x.err ∧ x.err ≤ 9223372036854775807
def encEv (x : HEv) : D := .cons (u8s x.kind) (.cons (i6 x.client) (.cons (encPOp x.op) (.cons (encBk x.value) (.cons (i6 x.err) .nil))))
abbrev encH (l : List HEv) : D := .arr 38 encEv l
abbrev encHL (l : List (List HEv)) : D := .arr 1 encH l
def zBk : List UInt8 := [0, 0, 0, 0, 0, 0, 0, 0, 0, 0, 0, 0, 0, 0, 0, 0, 0, 0, 0, 0, 0, 0, 0, 0, 0, 0, 0, 0, 0, 0, 0, 0]
def zOp : POp := ⟨0, 0, []⟩
structure HOp where
 client : Int
 number : Int
 era : Int
 op : POp
 invoked : Int
 returned : Int
 value : List UInt8
 err : Int
 deriving DecidableEq
def encOpn (x : HOp) : D := .cons (i6 x.client) (.cons (i6 x.number) (.cons (i6 x.era) (.cons (encPOp x.op) (.cons (i6 x.invoked) (.cons (i6 x.returned) (.cons (encBk x.value) (.cons (i6 x.err) .nil)))))))
abbrev encOps (l : List HOp) : D := .arr 41 encOpn l
theorem byI_inj {a b : List UInt8} : byI a = byI b ↔ a = b := by
 constructor
 ·intro h
  induction a generalizing b with
  | nil => cases b with
   | nil => rfl
   | cons y b => simp [byI] at h
  | cons x a ih => cases b with
   | nil => simp [byI] at h
   | cons y b =>
    simp only [byI, List.map_cons, List.cons.injEq] at h
    rw [ih h.2, UInt8.toNat_inj.1 (Int.ofNat.inj h.1)]
 ·rintro rfl; rfl
theorem block_eq (a b : List UInt8) : EqOk Tryz.prog 2 52 (encBk a) (encBk b) (decide (a = b)) :=
 (eq_vec tab_ok (P := Tryz.prog) Tryz.underlying52 rfl (fun _ => rfl) rfl (fun _ _ => eq_int (P := Tryz.prog) Tryz.underlying5)).cast (decide_eq_decide.2 byI_inj)
end Go.Proofs.YtmojbghcngdkpaaGreatDoor
namespace Go.Eng
open Go.RowKit
section
variable {P : Program} {T : Tab} {env : Env} {h : Upds} {n : Nat}
theorem clear_asl (hT : TabOk P T) {t e r L cap : Nat} {re : TyR} {s : Nat} {α : Type} {enc : α → D} (z : α) {x : Operand} {p : List Step} {row row' : Row} (ht : tdesc T t = some (.slice e)) (he : lk T e = some re) (hs : Nat.beq re.size s = true) (hs0 : Nat.blt 0 s = true) (hz : re.zero = enc z)
  (hx : evalA env x = some (.asl r p L cap)) (hrow : lookH h r = some row) (hL : Nat.blt 0 L = true) (hu : RUpd row p (.d (.vec L s enc (List.replicate L z))) row') :
  StepIs P (.call { callee := .builtin .clear, args := #[x], argTypes := #[t] }) env h n none [(r, some row')] := .of_comes fun C G st σ w a o ho hA hd hst hn => by
 have hs0 := Nat.le_of_ble_eq_true hs0
 have hL := Nat.le_of_ble_eq_true hL
 have hs := Nat.eq_of_beq_eq_true hs
 obtain ⟨ud, hud, hdd⟩ := tdesc_und hT ht
 cases hdd
 obtain ⟨hx1, hx2⟩ := ev_sound hst (hA.ev hx)
 have hrow := hA.row _ _ hrow
 obtain ⟨b, c, hb, hux⟩ := RelV.asl.1 hx1
 obtain ⟨zv, hzr, hzv⟩ := (hT e re he).run_zero w
 have hzl : zv.cells.toList.length = s := by
  have h1 := Enc.len _ _ (Enc.closed w (fun _ => False) _ (hT e re he).zero)
  rw [hzv, (hT e re he).zsize, hs] at h1
  exact h1
 have henc : Enc w (st.X C.X0 σ) (enc z) zv.cells.toList := by rw [← hz, ← hzv]; exact Enc.closed _ _ _ (hT e re he).zero
 have hm' : Rel σ w (st.X C.X0 σ) (.d (.vec L s enc (List.replicate L z))) false (cat (fun _ => zv.cells.toList) L) :=
  ⟨by simp, fun _ => zv.cells.toList, fun i hi => ⟨by simpa using henc, hzl⟩, rfl⟩
 obtain ⟨b', c', cur, t2, A, m, C', hb', hh, ⟨hcur, hA2⟩, hml, hnew⟩ := RUpd.cells hu (hst.rows r row hrow) rfl hm' (hst.rowsG r row hrow).2 trivial
 rw [hb] at hb'
 cases hb'
 have hw := hst.write (new := (A ++ cat (fun _ => zv.cells.toList) L ++ C').toArray) hrow hb hh (RUpd.within (hst.rowsG r row hrow).2 (show (AV.d (.vec L s enc (List.replicate L z))).within G from trivial) hu) (fun w' ht hd' hh' => hnew w' ht hd' hh')
 have hfl : (cat (fun _ => zv.cells.toList) L).length = L * s := cat_len _ fun _ _ => hzl
 have hone : ∀ u ∈ cat (fun _ => zv.cells.toList) L, u.oneCell' = true := fun u hu => by
  obtain ⟨k, hk, hu⟩ := cat_mem _ hu
  exact Enc.one _ _ henc u hu
 have hmade : (Builtin.zeroCells zv.cells L).toList = cat (fun _ => zv.cells.toList) L := by
  have := made_cells zv.cells.toList (by omega) L
  rw [cat_const, ← this]
  simp [Builtin.zeroCells]
 have hst1 : (storeCells ⟨b, pathOff p, none⟩ (cat (fun _ => zv.cells.toList) L) 0).run P w = .ok () (w.setRow b (A ++ cat (fun _ => zv.cells.toList) L ++ C').toArray) := by
  have hcl : cur.size = A.length + m.length + C'.length := by
   have := congrArg List.length hcur
   simp at this; omega
  rw [run_storeCells_at P b (pathOff p) t2 _ 0 cur w hh (by omega) hone]
  congr 3
  rw [hcur]
  have e1 : List.take (pathOff p + 0) (A ++ m ++ C') = A := by rw [← hA2]; simp
  have e2 : List.drop (pathOff p + 0 + (cat (fun _ => zv.cells.toList) L).length) (A ++ m ++ C') = C' := by
   rw [← hml, ← hA2, Nat.add_zero, ← List.length_append, List.drop_left]
  rw [e1, e2]
 have hrun : (Builtin.clear_ #[t] o.type #[a.eval x]).run P w = .ok (.tuple #[]) (w.setRow b (A ++ cat (fun _ => zv.cells.toList) L ++ C').toArray) := by
  obtain ⟨k, rfl⟩ : ∃ k, L = k + 1 := ⟨L - 1, by omega⟩
  simp [Builtin.clear_, hux, run_underlying hud, hzr, hmade, hst1]
 refine ⟨none, _, .value (.tuple #[]), undef, w.setRow b (A ++ cat (fun _ => zv.cells.toList) L ++ C').toArray, σ, G, ⟨rfl, rfl⟩, ?_, .inl rfl, ?_, fun _ h => h, fun _ h => .inl h⟩
 ·simp [execOp, ho, resolve, invoke, builtin, hrun]
 ·rw [St.put_upd]
  exact hw.set hd (v := none) (undef_rel _ _ _) trivial
theorem call_b {f : Operand} {args : Array Operand} {ts : Array TypeId} {g : FuncId} {first caps : AV} {bs9 avs : List AV} {h0 rows : List (Nat × Row)} {res v : AV} {u : Upds} (l : Names)
  (hfn : FnIs P g avs h0 res rows) (hf : evalA env f = some (.fn (.func g) first caps)) (hl : evL (evalA env) args.toList = some bs9) (hc1 : first.chain = true) (hc2 : caps.chain = true)
  (ha : ArgsA (lookH h) (rho l) (chainL first ++ (bs9 ++ chainL caps)) avs) (hr : RowsIn (lookH h) l h0) (hi : injOn (rho l) (keysOf h0) = true) (hk : keysIn l h0 = true)
  (hm : noBorrow (chainL first ++ (bs9 ++ chainL caps)) avs = true ∨ h0 = [] ∧ PlainRes res rows) (hv : res.ren (outRho l n) = v) (hu : callUpd l n h0 rows = u) :
  StepIs P (.call { callee := .value f, args := args, argTypes := ts }) env h n (some v) u := by
 have := StepIs.call (n := n) (ts := ts) (h0 := h0) (rows := rows) (res := res) l hfn hf hl hc1 hc2 ha hr hi hk hm
 rw [hv, hu] at this
 exact this
theorem arg_fnb {look : Nat → Option Row} {ρ : Nat → Option Nat} {f : Fn} {r k : Nat} {p : List Step} {bs9 avs : List AV} (hr : ρ r = some k) (h64 : Nat.blt r 64 = true) (h : ArgsA look ρ bs9 avs) :
  ArgsA look ρ (.fn f (.acons (.ptr k p) .anil) .anil :: bs9) (.fn f (.acons (.ptr r p) .anil) .anil :: avs) :=
 ⟨_, avs, rfl, ⟨rfl, by simp [AV.lt, h64]⟩, AVLe.of_eq (by simp only [AV.ren, hr]), h⟩
end
theorem RowLe.ds_map {t : TypeId} {s : Nat} {ex : Bool} {α β : Type} {enc : α → D} {enc' : β → D} (g : α → β) {xs : List α} {ys : List β} (hy : ys = xs.map g) (hg : ∀ x ∈ xs, DLe (enc x) (enc' (g x))) : RowLe (.ds t s ex enc xs) (.ds t s ex enc' ys) := by
 subst hy
 intro σ w X r h
 rcases h with ⟨h1, rfl⟩ | ⟨b, c, cur, h1, h0, h2, h3, h4, h5, f, hf, h6⟩
 ·exact .inl ⟨h1, rfl⟩
 ·refine .inr ⟨b, c, cur, h1, by rw [List.length_map]; exact h0, h2, h3, by rw [List.length_map]; exact h4, h5, f, fun i hi => ?_, by rw [List.length_map]; exact h6⟩
  rw [List.length_map] at hi
  refine ⟨?_, (hf i hi).2⟩
  rw [List.getElem_map]
  exact hg _ (List.getElem_mem _) _ _ _ (hf i hi).1
end Go.Eng
namespace Go.Eng
open Go.RowKit
theorem Frz.ownxe {r te s : Nat} {α : Type} {enc : α → D} {xs : List α} {len : Nat} (hl : len = xs.length) : Frz r (.ds te s true enc xs) (.own r 0 len s none) (.d (.arx s enc xs)) := by
 subst hl
 refine ⟨rfl, fun _ => rfl, fun _ _ => trivial, fun σ w X X' hx hn hr cs h => ?_⟩
 rcases h with ⟨h0, _, hl, _, rfl⟩ | ⟨b, c, ad, hb, rfl, hle1, hle2, hle3, had⟩
 ·exact .inl ⟨List.eq_nil_of_length_eq_zero hl, none, rfl⟩
 ·rcases hr with ⟨h0, rfl⟩ | ⟨b', c', cur, hb', hex, hh, hsz, hlen, hmax, f, hf, htake⟩
  ·rw [hb] at h0; cases h0
  ·rw [hb] at hb'
   cases hb'
   have hc : c = xs.length := hex rfl
   subst hc
   refine .inr ⟨ad, by simp, hmax, f, fun i hi => ?_⟩
   obtain ⟨h1, h2⟩ := hf i hi
   have hoff : ad = ⟨b, 0 * s, none⟩ := had (by omega)
   subst hoff
   refine ⟨Enc.sub hx _ _ h1, h2, fun j u hj => ⟨?_, hn b _ hb⟩⟩
   rw [add_mk, cell_of_row w b _ cur te (0, 0) hh]
   have hjs : j < s := by rw [← h2]; exact (List.getElem?_eq_some_iff.1 hj).1
   have hcg := cat_get (f := f) (s := s) xs.length (fun i hi => (hf i hi).2) i j hi hjs
   rw [← htake, hj, List.getElem?_take] at hcg
   have hlt2 : i * s + j < xs.length * s := by
    have : (i + 1) * s ≤ xs.length * s := Nat.mul_le_mul_right s hi
    rw [Nat.add_mul] at this; omega
   rw [if_pos hlt2] at hcg
   rw [← Array.getElem?_toList, Nat.zero_mul, Nat.zero_add]
   exact hcg
section
variable {P : Program} {T : Tab} {env : Env} {h : Upds} {n : Nat}
end
end Go.Eng
namespace Go.Proofs.YtmojbghcngdkpaaGreatDoor
open Go.Eng Go.Plain
set_option maxHeartbeats 4000000
set_option maxRecDepth 20000
attribute [local irreducible] WC RegS RegD SeqQ BlkQ ScoQ RegK CutK Sat SatN FnIs LoopQ StepIs OpIs
theorem exb_own (l : List Int) (hp : 0 < l.length) (hlen : l.length ≤ 1048576) : FnIs Tryz.prog 106 [.d (.arr 1 encU8 l)] [] (.own 64 0 l.length 1 none) [(64, .ds 5 1 true encU8 l)] := by
 have hd : decide ((l.length : Int) = 0) = false := dF (by omega)
 have hcp : l.take (List.replicate l.length (0 : Int)).length ++ (List.replicate l.length (0 : Int)).drop l.length = l := by simp
 have hmin : min l.length (List.replicate l.length (0 : Int)).length = l.length := by simp
 refine fnIs_of tab_ok Tryz.func106 rfl rfl rfl ?_;refine sR ?_;refine rC ?_;refine nQ ?_;refine sR ?_;refine rC ?_;refine rQ iE ?_;refine rC ?_;refine nS ?_;refine wF ?_
 refine kS ?_;refine sR ?_;refine rC ?_;refine rQ iE ?_;refine reg_new (make_full (enc := encU8) (s := 1) (N := l.length) tab_ok 0 rfl rfl rfl rfl rfl rfl rfl hlen rfl) rfl ?_
 refine rC ?_;refine nR ?_;iterate 2 refine rC ?_
 refine reg_new (copy_arr (r := 64 + 8 + 8 + 8 + 8 + 8 + 8) (xs := List.replicate l.length (0 : Int)) (ys := l) (enc := encU8) (zs := l) (m := l.length) tab_ok rfl rfl rfl rfl (by rw [List.length_replicate]; rfl) rfl rfl hcp hmin) rfl ?_
 refine nR ?_;iterate 2 refine rC ?_
 refine nS ?_;refine wc_ret ?_
 exact ⟨trivial, [(64, some _)], .of rfl rfl rfl rfl rfl ⟨⟨_, rfl, AVLe.of_eq rfl⟩, rfl, trivial⟩ ⟨⟨rfl, rfl, _, rfl, .refl _⟩, trivial⟩⟩
theorem exb_is (l : List UInt8) (hlen : l.length ≤ 1048576) : FnIs Tryz.prog 106 [.d (encB l)] [] (.d (encB l)) [] := by
 cases l with
 | nil =>
  have hd : decide ((0 : Int) = 0) = true := rfl
  refine fnIs_of tab_ok Tryz.func106 rfl rfl rfl ?_;refine sR ?_;refine rC ?_;refine nQ ?_;refine sR ?_;refine rC ?_;refine rQ iE ?_;refine rC ?_;refine nS ?_;refine wV ?_
  refine sR ?_;refine rC ?_;refine nS ?_;refine wc_ret ?_;refine seq_r ?_
  exact ⟨trivial, [], .of rfl rfl rfl rfl rfl ⟨⟨_, rfl, nil_arr _ _⟩, rfl, trivial⟩ trivial⟩
 | cons a l => exact (exb_own (byI (a :: l)) (by simp [byI]) (by rw [byI_len]; exact hlen)).freeze_out 64 _ rfl (Frz.own rfl) trivial
def zPOp : D := .cons (u8s 0) (.cons (i6 0) (.cons (.sc (.slice none 0 0)) .nil))
def encON : Option HOp → D
 | none => .cons (i6 0) (.cons (i6 0) (.cons (i6 0) (.cons zPOp (.cons (i6 0) (.cons (i6 0) (.cons (.vec 32 1 encU8 (List.replicate 32 0)) (.cons (i6 0) .nil)))))))
 | some x => encOpn x
def encEN : Option HEv → D
 | none => .cons (u8s 0) (.cons (i6 0) (.cons zPOp (.cons (.vec 32 1 encU8 (List.replicate 32 0)) (.cons (i6 0) .nil))))
 | some x => encEv x
abbrev encOX (l : List HOp) : D := .arx 41 encOpn l
abbrev encHX (l : List HEv) : D := .arx 38 encEv l
def encXN1 : Option (List HEv) → D
 | none => .sc (.slice none 0 0)
 | some x => encHX x
theorem opn_in (l : List HOp) : ArgsLe [.d (encOps l)] [.d (.arr 41 encON (l.map some))] := ⟨⟨AVLe.d (dle_arr rfl fun _ _ _ _ _ h => h) rfl, fun _ _ => trivial⟩, trivial⟩
theorem ev_in (l : List HEv) : ArgsLe [.d (encH l)] [.d (.arr 38 encEN (l.map some))] := ⟨⟨AVLe.d (dle_arr rfl fun _ _ _ _ _ h => h) rfl, fun _ _ => trivial⟩, trivial⟩
theorem hl_in (l : List (List HEv)) : ArgsLe [.d (.arr 1 encHX l)] [.d (.arr 1 encXN1 (l.map some))] := ⟨⟨AVLe.d (dle_arr rfl fun _ _ _ _ _ h => h) rfl, fun _ _ => trivial⟩, trivial⟩
theorem opn_out (l : List HOp) : RowLe (.ds 54 41 true encON (l.map some)) (.ds 54 41 true encOpn l) :=
 RowLe.ds_map (fun o => match o with | some x => x | none => ⟨0, 0, 0, zOp, 0, 0, [], 0⟩) (by rw [List.map_map]; exact (List.map_id _).symm) fun x hx => by
  obtain ⟨y, _, rfl⟩ := List.mem_map.1 hx
  exact fun _ _ _ h => h
theorem ev_out (l : List HEv) : RowLe (.ds 59 38 true encEN (l.map some)) (.ds 59 38 true encEv l) :=
 RowLe.ds_map (fun o => match o with | some x => x | none => ⟨0, 0, zOp, [], 0⟩) (by rw [List.map_map]; exact (List.map_id _).symm) fun x hx => by
  obtain ⟨y, _, rfl⟩ := List.mem_map.1 hx
  exact fun _ _ _ h => h
theorem hl_out (l : List (List HEv)) : RowLe (.ds 22 1 true encXN1 (l.map some)) (.ds 22 1 true encHX l) :=
 RowLe.ds_map (fun o => match o with | some x => x | none => []) (by rw [List.map_map]; exact (List.map_id _).symm) fun x hx => by
  obtain ⟨y, _, rfl⟩ := List.mem_map.1 hx
  exact fun _ _ _ h => h
theorem exo_own (l : List (Option HOp)) (hp : 0 < l.length) (hlen : l.length ≤ 1048576) : FnIs Tryz.prog 57 [.d (.arr 41 encON l)] [] (.own 64 0 l.length 41 none) [(64, .ds 54 41 true encON l)] := by
 have hd : decide ((l.length : Int) = 0) = false := dF (by omega)
 have hcp : l.take (List.replicate l.length (none : Option HOp)).length ++ (List.replicate l.length (none : Option HOp)).drop l.length = l := by simp
 have hmin : min l.length (List.replicate l.length (none : Option HOp)).length = l.length := by simp
 refine fnIs_of tab_ok Tryz.func57 rfl rfl rfl ?_;refine sR ?_;refine rC ?_;refine nQ ?_;refine sR ?_;refine rC ?_;refine rQ iE ?_;refine rC ?_;refine nS ?_;refine wF ?_
 refine kS ?_;refine sR ?_;refine rC ?_;refine rQ iE ?_;refine reg_new (make_full (enc := encON) (s := 41) (N := l.length) tab_ok none rfl rfl rfl rfl rfl rfl rfl hlen rfl) rfl ?_
 refine rC ?_;refine nR ?_;iterate 2 refine rC ?_
 refine reg_new (copy_arr (r := 64 + 8 + 8 + 8 + 8 + 8 + 8) (xs := List.replicate l.length none) (ys := l) (enc := encON) (zs := l) (m := l.length) tab_ok rfl rfl rfl rfl (by rw [List.length_replicate]; rfl) rfl rfl hcp hmin) rfl ?_
 refine nR ?_;iterate 2 refine rC ?_
 refine nS ?_;refine wc_ret ?_
 exact ⟨trivial, [(64, some _)], .of rfl rfl rfl rfl rfl ⟨⟨_, rfl, AVLe.of_eq rfl⟩, rfl, trivial⟩ ⟨⟨rfl, rfl, _, rfl, .refl _⟩, trivial⟩⟩
theorem exo_is (l : List HOp) (hlen : l.length ≤ 1048576) : FnIs Tryz.prog 57 [.d (.arr 41 encOpn l)] [] (.d (.arx 41 encOpn l)) [] := by
 cases l with
 | nil =>
  have hd : decide ((0 : Int) = 0) = true := rfl
  refine fnIs_of tab_ok Tryz.func57 rfl rfl rfl ?_;refine sR ?_;refine rC ?_;refine nQ ?_;refine sR ?_;refine rC ?_;refine rQ iE ?_;refine rC ?_;refine nS ?_;refine wV ?_
  refine sR ?_;refine rC ?_;refine nS ?_;refine wc_ret ?_;refine seq_r ?_
  exact ⟨trivial, [], .of rfl rfl rfl rfl rfl ⟨⟨_, rfl, nil_arx _ _⟩, rfl, trivial⟩ trivial⟩
 | cons a l => exact FnIs.args_le (opn_in (a :: l)) ((exo_own ((a :: l).map some) (by simp) (by rw [List.length_map]; exact hlen)).freeze_out 64 _ rfl (Frz.row_le (opn_out (a :: l)) (Frz.ownxe (by simp))) trivial)
theorem exe_own (l : List (Option HEv)) (hp : 0 < l.length) (hlen : l.length ≤ 1048576) : FnIs Tryz.prog 58 [.d (.arr 38 encEN l)] [] (.own 64 0 l.length 38 none) [(64, .ds 59 38 true encEN l)] := by
 have hd : decide ((l.length : Int) = 0) = false := dF (by omega)
 have hcp : l.take (List.replicate l.length (none : Option HEv)).length ++ (List.replicate l.length (none : Option HEv)).drop l.length = l := by simp
 have hmin : min l.length (List.replicate l.length (none : Option HEv)).length = l.length := by simp
 refine fnIs_of tab_ok Tryz.func58 rfl rfl rfl ?_;refine sR ?_;refine rC ?_;refine nQ ?_;refine sR ?_;refine rC ?_;refine rQ iE ?_;refine rC ?_;refine nS ?_;refine wF ?_
 refine kS ?_;refine sR ?_;refine rC ?_;refine rQ iE ?_;refine reg_new (make_full (enc := encEN) (s := 38) (N := l.length) tab_ok none rfl rfl rfl rfl rfl rfl rfl hlen rfl) rfl ?_
 refine rC ?_;refine nR ?_;iterate 2 refine rC ?_
 refine reg_new (copy_arr (r := 64 + 8 + 8 + 8 + 8 + 8 + 8) (xs := List.replicate l.length none) (ys := l) (enc := encEN) (zs := l) (m := l.length) tab_ok rfl rfl rfl rfl (by rw [List.length_replicate]; rfl) rfl rfl hcp hmin) rfl ?_
 refine nR ?_;iterate 2 refine rC ?_
 refine nS ?_;refine wc_ret ?_
 exact ⟨trivial, [(64, some _)], .of rfl rfl rfl rfl rfl ⟨⟨_, rfl, AVLe.of_eq rfl⟩, rfl, trivial⟩ ⟨⟨rfl, rfl, _, rfl, .refl _⟩, trivial⟩⟩
theorem exe_is (l : List HEv) (hlen : l.length ≤ 1048576) : FnIs Tryz.prog 58 [.d (.arr 38 encEv l)] [] (.d (.arx 38 encEv l)) [] := by
 cases l with
 | nil =>
  have hd : decide ((0 : Int) = 0) = true := rfl
  refine fnIs_of tab_ok Tryz.func58 rfl rfl rfl ?_;refine sR ?_;refine rC ?_;refine nQ ?_;refine sR ?_;refine rC ?_;refine rQ iE ?_;refine rC ?_;refine nS ?_;refine wV ?_
  refine sR ?_;refine rC ?_;refine nS ?_;refine wc_ret ?_;refine seq_r ?_
  exact ⟨trivial, [], .of rfl rfl rfl rfl rfl ⟨⟨_, rfl, nil_arx _ _⟩, rfl, trivial⟩ trivial⟩
 | cons a l => exact FnIs.args_le (ev_in (a :: l)) ((exe_own ((a :: l).map some) (by simp) (by rw [List.length_map]; exact hlen)).freeze_out 64 _ rfl (Frz.row_le (ev_out (a :: l)) (Frz.ownxe (by simp))) trivial)
theorem exh_own (l : List (Option (List HEv))) (hp : 0 < l.length) (hlen : l.length ≤ 1048576) : FnIs Tryz.prog 60 [.d (.arr 1 encXN1 l)] [] (.own 64 0 l.length 1 none) [(64, .ds 22 1 true encXN1 l)] := by
 have hd : decide ((l.length : Int) = 0) = false := dF (by omega)
 have hcp : l.take (List.replicate l.length (none : Option (List HEv))).length ++ (List.replicate l.length (none : Option (List HEv))).drop l.length = l := by simp
 have hmin : min l.length (List.replicate l.length (none : Option (List HEv))).length = l.length := by simp
 refine fnIs_of tab_ok Tryz.func60 rfl rfl rfl ?_;refine sR ?_;refine rC ?_;refine nQ ?_;refine sR ?_;refine rC ?_;refine rQ iE ?_;refine rC ?_;refine nS ?_;refine wF ?_
 refine kS ?_;refine sR ?_;refine rC ?_;refine rQ iE ?_;refine reg_new (make_full (enc := encXN1) (s := 1) (N := l.length) tab_ok none rfl rfl rfl rfl rfl rfl rfl hlen rfl) rfl ?_
 refine rC ?_;refine nR ?_;iterate 2 refine rC ?_
 refine reg_new (copy_arr (r := 64 + 8 + 8 + 8 + 8 + 8 + 8) (xs := List.replicate l.length none) (ys := l) (enc := encXN1) (zs := l) (m := l.length) tab_ok rfl rfl rfl rfl (by rw [List.length_replicate]; rfl) rfl rfl hcp hmin) rfl ?_
 refine nR ?_;iterate 2 refine rC ?_
 refine nS ?_;refine wc_ret ?_
 exact ⟨trivial, [(64, some _)], .of rfl rfl rfl rfl rfl ⟨⟨_, rfl, AVLe.of_eq rfl⟩, rfl, trivial⟩ ⟨⟨rfl, rfl, _, rfl, .refl _⟩, trivial⟩⟩
theorem exh_is (l : List (List HEv)) (hlen : l.length ≤ 1048576) : FnIs Tryz.prog 60 [.d (.arr 1 encHX l)] [] (.d (.arx 1 encHX l)) [] := by
 cases l with
 | nil =>
  have hd : decide ((0 : Int) = 0) = true := rfl
  refine fnIs_of tab_ok Tryz.func60 rfl rfl rfl ?_;refine sR ?_;refine rC ?_;refine nQ ?_;refine sR ?_;refine rC ?_;refine rQ iE ?_;refine rC ?_;refine nS ?_;refine wV ?_
  refine sR ?_;refine rC ?_;refine nS ?_;refine wc_ret ?_;refine seq_r ?_
  exact ⟨trivial, [], .of rfl rfl rfl rfl rfl ⟨⟨_, rfl, nil_arx _ _⟩, rfl, trivial⟩ trivial⟩
 | cons a l => exact FnIs.args_le (hl_in (a :: l)) ((exh_own ((a :: l).map some) (by simp) (by rw [List.length_map]; exact hlen)).freeze_out 64 _ rfl (Frz.row_le (hl_out (a :: l)) (Frz.ownxe (by simp))) trivial)
end Go.Proofs.YtmojbghcngdkpaaGreatDoor
namespace Go.Proofs.YtmojbghcngdkpaaGreatDoor
open Go.Eng Go.Plain
set_option maxHeartbeats 8000000
set_option maxRecDepth 20000
attribute [local irreducible] WC RegS RegD SeqQ BlkQ ScoQ RegK CutK Sat SatN FnIs LoopQ StepIs OpIs
theorem blank_w (x : POp) (c1 c2 : Bool) (h1 : decide (x.kind = 0) = c1) (h2 : decide (x.index = 0) = c2) : FnIs Tryz.prog 115 [.d (encPOp x)] [] (.bool (c1 && c2 && decide (((byI x.data).length : Int) = 0))) [] := by
 refine fnIs_of tab_ok Tryz.func115 rfl rfl rfl ?_;refine sR ?_;refine rN ?_;refine rC ?_;refine nR ?_;refine rC ?_;refine rQ iB ?_;iterate 2 refine rC ?_
 cases c1 with
 | false =>
  iterate 3 refine rS ?_
  refine rQ iF ?_;refine rC ?_;iterate 4 refine rT ?_
  refine rQ iG ?_;refine rC ?_;refine nS ?_;refine wc_ret ?_
  exact ⟨trivial, [], lf⟩
 | true =>
  refine rO ?_;refine rC ?_;refine rO ?_;refine rQ iB ?_;refine rO ?_;refine rC ?_;refine rQ iT ?_;refine rC ?_
  cases c2 with
  | false =>
   iterate 4 refine rS ?_
   refine rQ iF ?_;refine rC ?_;refine nS ?_;refine wc_ret ?_
   exact ⟨trivial, [], lf⟩
  | true =>
   refine rO ?_;refine rC ?_;refine rO ?_;refine rQ iB ?_;refine rO ?_;refine rQ iE ?_;refine rO ?_;refine rC ?_;refine rQ iT ?_;refine rC ?_;refine nS ?_;refine wc_ret ?_
   exact ⟨trivial, [], lf⟩
theorem zop_dec (x : POp) : (decide (x.kind = 0) && decide (x.index = 0) && decide (((byI x.data).length : Int) = 0)) = decide (x = zOp) := by
 obtain ⟨k, i, d⟩ := x
 rw [byI_len]
 have : decide (((d.length : Nat) : Int) = 0) = decide (d = []) := decide_eq_decide.2 (by rw [← List.length_eq_zero_iff]; omega)
 simp only [this, zOp, POp.mk.injEq]
 by_cases h1 : k = 0 <;> by_cases h2 : i = 0 <;> by_cases h3 : d = [] <;> simp [h1, h2, h3]
theorem blank_is (x : POp) : FnIs Tryz.prog 115 [.d (encPOp x)] [] (.bool (decide (x = zOp))) [] := by
 have := blank_w x _ _ rfl rfl
 rwa [zop_dec] at this
theorem zop_le : DLe (.cons (.sc (.int .u8 0)) (.cons (.sc (.int .i64 0)) (.cons (.sc nil_) .nil))) (encPOp zOp) := by
 rintro w X cs ⟨c1, r1, rfl, h1, c2, r2, rfl, h2, c3, r3, rfl, h3, h4⟩
 exact ⟨c1, _, rfl, h1, c2, _, rfl, h2, c3, r3, rfl, .inl ⟨rfl, h3.1⟩, h4⟩
theorem zero_is (x : POp) : FnIs Tryz.prog 104 [.d (encPOp x)] [] (.d (i6 (if x = zOp then 1 else 0))) [] := by
 refine fnIs_of tab_ok Tryz.func104 rfl rfl rfl ?_;refine sR ?_;refine rN ?_;refine rC ?_;refine nR ?_;refine rQ iM ?_;refine rQ iS ?_;refine rQ (call_r (requal_is x zOp) rfl rfl (arg_e (arg_d rfl trivial zop_le arg_nil)) (.inl rfl) (fun _ => rfl)) ?_
 refine rC ?_;refine nS ?_;refine wc_ret ?_
 exact ⟨trivial, [], lf⟩
theorem hequal_w (x y : HEv) (c1 c2 c3 c4 : Bool) (h1 : (!decide (x.kind = y.kind)) = c1) (h2 : (!decide (x.client = y.client)) = c2) (h3 : (!decide (x.value = y.value)) = c3) (h4 : (!decide (x.err = y.err)) = c4) : FnIs Tryz.prog 68 [.d (encEv x), .d (encEv y)] [] (.d (i6 (if c1 || c2 || c3 || c4 then 0 else if x.op = y.op then 1 else 0))) [] := by
 refine fnIs_of tab_ok Tryz.func68 rfl rfl rfl ?_;refine sR ?_;iterate 2 refine rN ?_
 refine rC ?_;refine nQ ?_;refine sR ?_;refine rC ?_;refine rQ iB ?_;refine rC ?_;refine rQ iB ?_;iterate 2 refine rC ?_
 cases c1 with
 | true =>
  iterate 5 refine rS ?_
  refine rQ iT ?_;refine rC ?_;iterate 5 refine rT ?_
  refine rQ iU ?_;refine rC ?_;iterate 5 refine rT ?_
  refine rQ iU ?_;refine nS ?_;refine wV ?_;refine sR ?_;refine rC ?_;refine nS ?_;refine wc_ret ?_;refine seq_r ?_
  exact ⟨trivial, [], lf⟩
 | false =>
  refine rO ?_;refine rC ?_;refine rO ?_;refine rQ iB ?_;refine rO ?_;refine rC ?_;refine rO ?_;refine rQ iB ?_;refine rO ?_;refine rC ?_;refine rQ iF ?_;refine rC ?_
  cases c2 with
  | true =>
   iterate 5 refine rS ?_
   refine rQ iT ?_;refine rC ?_;iterate 5 refine rT ?_
   refine rQ iU ?_;refine nS ?_;refine wV ?_;refine sR ?_;refine rC ?_;refine nS ?_;refine wc_ret ?_;refine seq_r ?_
   exact ⟨trivial, [], lf⟩
  | false =>
   refine rO ?_;refine rC ?_;refine rO ?_;refine rQ iB ?_;refine rO ?_;refine rC ?_;refine rO ?_;refine rQ iB ?_;refine rO ?_;refine rQ (neq_data rfl rfl rfl rfl (by kernel_rfl) (by decide) (block_eq x.value y.value)) ?_
   refine rQ iF ?_;refine rC ?_
   cases c3 with
   | true =>
    iterate 5 refine rS ?_
    refine rQ iT ?_;refine nS ?_;refine wV ?_;refine sR ?_;refine rC ?_;refine nS ?_;refine wc_ret ?_;refine seq_r ?_
    exact ⟨trivial, [], lf⟩
   | false =>
    refine rO ?_;refine rC ?_;refine rO ?_;refine rQ iB ?_;refine rO ?_;refine rC ?_;refine rO ?_;refine rQ iB ?_;refine rO ?_;refine rC ?_;refine rQ iF ?_;refine nS ?_
    cases c4 with
    | true =>
     refine wT ?_;refine sR ?_;refine rC ?_;refine nS ?_;refine wc_ret ?_;refine seq_r ?_
     exact ⟨trivial, [], lf⟩
    | false =>
     refine wF ?_;refine kS ?_;refine sR ?_;refine rC ?_;refine rQ iB ?_;refine rC ?_;refine rQ iB ?_;refine rQ (call_r (requal_is x.op y.op) rfl rfl (arg_e (arg_e arg_nil)) (.inl rfl) (fun _ => rfl)) ?_
     refine rC ?_;refine nS ?_;refine wc_ret ?_
     exact ⟨trivial, [], lf⟩
theorem ev_dec (x y : HEv) : (if (!decide (x.kind = y.kind)) || (!decide (x.client = y.client)) || (!decide (x.value = y.value)) || (!decide (x.err = y.err)) then (0 : Int) else if x.op = y.op then 1 else 0) = if x = y then 1 else 0 := by
 obtain ⟨k, c, o, v, e⟩ := x
 obtain ⟨k', c', o', v', e'⟩ := y
 simp only [HEv.mk.injEq]
 by_cases h1 : k = k' <;> by_cases h2 : c = c' <;> by_cases h3 : v = v' <;> by_cases h4 : e = e' <;> by_cases h5 : o = o' <;> simp [h1, h2, h3, h4, h5]
theorem hequal_is (x y : HEv) : FnIs Tryz.prog 68 [.d (encEv x), .d (encEv y)] [] (.d (i6 (if x = y then 1 else 0))) [] := by
 have := hequal_w x y _ _ _ _ rfl rfl rfl rfl
 rwa [ev_dec] at this
theorem hrsame_is (p q : List HEv) (hL : p.length ≤ 1000000000) : FnIs Tryz.prog 28 [.d (encH p), .d (encH q)] [] (.d (i6 (if p = q then 1 else 0))) [] := by
 refine fnIs_of tab_ok Tryz.func28 rfl rfl rfl ?_
 by_cases hlen : p.length = q.length
 ·have hd : (!decide ((p.length : Int) = (q.length : Int))) = false := by rw [dT (by omega)]; rfl
  refine sR ?_;refine rC ?_;refine nQ ?_;refine sR ?_;refine rC ?_;refine rQ iE ?_;refine rC ?_;refine rQ iE ?_;refine rC ?_;refine nS ?_;refine wF ?_;refine kS ?_
  refine qR ?_;refine rC ?_;refine nS ?_;refine wc_block ?_
  refine wc_inv (fun i : Nat => ⟨[(5, .int .i64 i), (1, .d (encH q)), (0, .d (encH p))], [], 72, Tryz.f28.ntmps, 64⟩) (fun i => i ≤ p.length ∧ p.take i = q.take i) (fun i => p.length - i) 0 [] ⟨Nat.zero_le _, by simp⟩
   (.of rfl rfl rfl rfl rfl ⟨⟨_, rfl, .refl _⟩, rfl, ⟨_, rfl, .refl _⟩, rfl, ⟨_, rfl, .refl _⟩, rfl, trivial⟩ trivial) ?_
  intro i hi
  obtain ⟨hi, hsame⟩ := hi
  refine wc_of ?_;refine qR ?_;iterate 2 refine rC ?_
  refine rQ iE ?_;refine rC ?_;refine nS ?_
  refine wc_cond rfl (fun h3 => ?_) (fun h3 => ?_)
  ·have hlt : i < p.length := by have := of_decide_eq_true h3; omega
   obtain ⟨x, hx⟩ : ∃ x, p[i]? = some x := ⟨_, List.getElem?_eq_getElem hlt⟩
   obtain ⟨y, hy⟩ : ∃ y, q[i]? = some y := ⟨_, List.getElem?_eq_getElem (by omega)⟩
   have hx' : p[((i : Int)).toNat]? = some x := by rw [Int.toNat_natCast]; exact hx
   have hy' : q[((i : Int)).toNat]? = some y := by rw [Int.toNat_natCast]; exact hy
   have hreq := hequal_is x y
   by_cases he : x = y
   ·rw [if_pos he] at hreq
    refine kS ?_;refine wc_seq ?_;refine wc_block ?_;refine wc_seq ?_;refine wc_draw (by kernel_rfl) ?_;refine dC [0] [] ?_;refine dC [5] [] ?_;refine dQ [17, 18] [] iA ?_
    refine dQ [19] [] iL ?_;refine dC [1] [] ?_;refine dC [5] [] ?_;refine dQ [21, 22] [] iA ?_;refine dQ [23] [] iL ?_;refine dQ [20, 24] [] (call_r hreq rfl rfl (arg_e (arg_e arg_nil)) (.inl rfl) (fun _ => rfl)) ?_
    refine dC [25] [] ?_;refine dreg_end (by kernel_rfl) ?_;refine seq_n ?_;refine wG ?_;refine wc_skip ?_;refine blk_n ?_;refine seq_n ?_;refine wc_region ?_;refine rC ?_
    refine rQ iD ?_;refine rC ?_;refine reg_nil ?_
    exact loop_n (i + 1) [] ⟨hlt, by rw [List.take_add_one, List.take_add_one, hx, hy, hsame, he]⟩ (by omega) (.of rfl rfl rfl rfl rfl ⟨⟨_, rfl, .refl _⟩, rfl, ⟨_, rfl, .refl _⟩, rfl, ⟨_, rfl, .refl _⟩, rfl, trivial⟩ trivial)
   ·rw [if_neg he] at hreq
    rw [if_neg (fun e => he (by rw [e, hy] at hx; cases hx; rfl))]
    refine kS ?_;refine wc_seq ?_;refine wc_block ?_;refine wc_seq ?_;refine wc_draw (by kernel_rfl) ?_;refine dC [0] [] ?_;refine dC [5] [] ?_;refine dQ [17, 18] [] iA ?_
    refine dQ [19] [] iL ?_;refine dC [1] [] ?_;refine dC [5] [] ?_;refine dQ [21, 22] [] iA ?_;refine dQ [23] [] iL ?_;refine dQ [20, 24] [] (call_r hreq rfl rfl (arg_e (arg_e arg_nil)) (.inl rfl) (fun _ => rfl)) ?_
    refine dC [25] [] ?_;refine dreg_end (by kernel_rfl) ?_;refine seq_n ?_;refine wV ?_;refine sR ?_;refine rC ?_;refine nS ?_;refine wc_ret ?_;refine blk_r ?_;refine seq_r ?_
    refine loop_r ?_;refine blk_r ?_;refine seq_r ?_
    exact ⟨trivial, [], lf⟩
  ·have he : i = p.length := by have := of_decide_eq_false h3; omega
   subst he
   rw [if_pos (by rw [List.take_length] at hsame; rw [hsame, hlen, List.take_length])]
   refine wc_exit ?_;refine seq_x ?_;refine loop_x ?_;refine blk_x ?_;refine seq_n ?_;refine sR ?_;refine rC ?_;refine nS ?_;refine wc_ret ?_
   exact ⟨trivial, [], lf⟩
 ·have hd : (!decide ((p.length : Int) = (q.length : Int))) = true := by rw [dF (by omega)]; rfl
  rw [if_neg (fun e => hlen (by rw [e]))]
  refine sR ?_;refine rC ?_;refine nQ ?_;refine sR ?_;refine rC ?_;refine rQ iE ?_;refine rC ?_;refine rQ iE ?_;refine rC ?_;refine nS ?_;refine wT ?_;refine sR ?_
  refine rC ?_;refine nS ?_;refine wc_ret ?_;refine seq_r ?_
  exact ⟨trivial, [], lf⟩
def befB (a b : HOp) : Bool := if a.era = b.era then decide (0 ≤ a.returned) && decide (a.returned < b.invoked) else decide (a.era < b.era)
theorem before_is (a b : HOp) : FnIs Tryz.prog 54 [.d (encOpn a), .d (encOpn b)] [] (.bool (befB a b)) [] := by
 refine fnIs_of tab_ok Tryz.func54 rfl rfl rfl ?_
 unfold befB
 refine sR ?_;iterate 2 refine rN ?_
 refine rC ?_;refine nQ ?_;refine sR ?_;refine rC ?_;refine rQ iB ?_;refine rC ?_;refine rQ iB ?_;refine rC ?_;refine nS ?_
 by_cases h : a.era = b.era
 ·have hd : (!decide (a.era = b.era)) = false := by rw [dT h]; rfl
  rw [if_pos h]
  obtain ⟨c, hc⟩ : ∃ c, decide (0 ≤ a.returned) = c := ⟨_, rfl⟩
  rw [hc]
  refine wF ?_;refine kS ?_;refine sR ?_;refine rC ?_;refine rQ iB ?_;iterate 2 refine rC ?_
  cases c with
  | true =>
   refine rO ?_;refine rC ?_;refine rO ?_;refine rQ iB ?_;refine rO ?_;refine rC ?_;refine rO ?_;refine rQ iB ?_;refine rO ?_;refine rC ?_;refine rQ iT ?_;refine rC ?_
   refine nS ?_;refine wc_ret ?_
   exact ⟨trivial, [], lf⟩
  | false =>
   iterate 5 refine rS ?_
   refine rQ iF ?_;refine rC ?_;refine nS ?_;refine wc_ret ?_
   exact ⟨trivial, [], lf⟩
 ·have hd : (!decide (a.era = b.era)) = true := by rw [dF h]; rfl
  rw [if_neg h]
  refine wT ?_;refine sR ?_;refine rC ?_;refine rQ iB ?_;refine rC ?_;refine rQ iB ?_;iterate 2 refine rC ?_
  refine nS ?_;refine wc_ret ?_;refine seq_r ?_
  exact ⟨trivial, [], lf⟩
theorem sameops_is (p q : List HOp) (hL : p.length ≤ 1000000000) : FnIs Tryz.prog 26 [.d (encOps p), .d (encOps q)] [] (.d (i6 (if p = q then 1 else 0))) [] := by
 refine fnIs_of tab_ok Tryz.func26 rfl rfl rfl ?_;refine sR ?_;refine rC ?_;refine nQ ?_;refine sR ?_;refine rC ?_;refine rQ iE ?_;refine rC ?_;refine rQ iE ?_;refine rC ?_
 refine nS ?_
 by_cases hlen : p.length = q.length
 ·have hd : (!decide ((p.length : Int) = (q.length : Int))) = false := by rw [dT (by omega)]; rfl
  refine wF ?_;refine kS ?_;refine qR ?_;refine rC ?_;refine nS ?_;refine wc_block ?_
  refine wc_inv (fun i : Nat => ⟨[(5, .int .i64 i), (1, .d (encOps q)), (0, .d (encOps p))], [], 72, Tryz.f26.ntmps, 64⟩) (fun i => i ≤ p.length ∧ p.take i = q.take i) (fun i => p.length - i) 0 [] ⟨Nat.zero_le _, by simp⟩
   (.of rfl rfl rfl rfl rfl ⟨⟨_, rfl, .refl _⟩, rfl, ⟨_, rfl, .refl _⟩, rfl, ⟨_, rfl, .refl _⟩, rfl, trivial⟩ trivial) ?_
  intro i hi
  obtain ⟨hi, hsame⟩ := hi
  refine wc_of ?_;refine qR ?_;iterate 2 refine rC ?_
  refine rQ iE ?_;refine rC ?_;refine nS ?_
  refine wc_cond rfl (fun h3 => ?_) (fun h3 => ?_)
  ·have hlt : i < p.length := by have := of_decide_eq_true h3; omega
   obtain ⟨x, hx⟩ : ∃ x, p[i]? = some x := ⟨_, List.getElem?_eq_getElem hlt⟩
   obtain ⟨y, hy⟩ : ∃ y, q[i]? = some y := ⟨_, List.getElem?_eq_getElem (by omega)⟩
   have hx' : p[((i : Int)).toNat]? = some x := by rw [Int.toNat_natCast]; exact hx
   have hy' : q[((i : Int)).toNat]? = some y := by rw [Int.toNat_natCast]; exact hy
   have hreq := requal_is x.op y.op
   obtain ⟨q7, hq7⟩ : ∃ q : Int, (if x.op = y.op then (1 : Int) else 0) = q := ⟨_, rfl⟩
   rw [hq7] at hreq
   have hne : x ≠ y → ¬ p = q := fun h e => h (by rw [e, hy] at hx; cases hx; rfl)
   refine kS ?_;refine wc_seq ?_;refine wc_block ?_;refine wc_seq ?_;refine wc_draw (by kernel_rfl) ?_;refine dC [0] [] ?_;refine dC [5] [] ?_;refine dQ [19, 20] [] iA ?_
   refine dQ [21] [] iL ?_;refine dC [1] [] ?_;refine dC [5] [] ?_;refine dQ [23, 24] [] iA ?_;refine dQ [25] [] iL ?_;iterate 2 refine dreg_w [] [] rfl (step_C tab_ok (fun K hk => hk)) ?_
   refine dreg_s [6, 22] [168] (store_row tab_ok rfl rfl rfl ⟨_, ⟨rfl, rfl, rfl⟩, rfl⟩ rfl) ?_;refine dreg_s [7, 26] [176] (store_row tab_ok rfl rfl rfl ⟨_, ⟨rfl, rfl, rfl⟩, rfl⟩ rfl) ?_
   refine dreg_end (by kernel_rfl) ?_;refine seq_n ?_;refine sR ?_;refine rC ?_;refine rQ iB ?_;refine rC ?_;refine rQ iB ?_;iterate 2 refine rC ?_
   by_cases e0 : x.client = y.client
   ·have d0 : (!decide (x.client = y.client)) = false := by rw [dT e0]; rfl
    refine rO ?_;refine rC ?_;refine rO ?_;refine rQ iB ?_;refine rO ?_;refine rC ?_;refine rO ?_;refine rQ iB ?_;refine rO ?_;refine rC ?_;refine rQ iF ?_;refine rC ?_
    by_cases e1 : x.number = y.number
    ·have d1 : (!decide (x.number = y.number)) = false := by rw [dT e1]; rfl
     refine rO ?_;refine rC ?_;refine rO ?_;refine rQ iB ?_;refine rO ?_;refine rC ?_;refine rO ?_;refine rQ iB ?_;refine rO ?_;refine rC ?_;refine rQ iF ?_;refine rC ?_
     by_cases e2 : x.era = y.era
     ·have d2 : (!decide (x.era = y.era)) = false := by rw [dT e2]; rfl
      refine rO ?_;refine rC ?_;refine rO ?_;refine rQ iB ?_;refine rO ?_;refine rC ?_;refine rO ?_;refine rQ iB ?_;refine rO ?_;refine rC ?_;refine rQ iF ?_;refine rC ?_
      by_cases e3 : x.invoked = y.invoked
      ·have d3 : (!decide (x.invoked = y.invoked)) = false := by rw [dT e3]; rfl
       refine rO ?_;refine rC ?_;refine rO ?_;refine rQ iB ?_;refine rO ?_;refine rC ?_;refine rO ?_;refine rQ iB ?_;refine rO ?_;refine rC ?_;refine rQ iF ?_;refine rC ?_
       by_cases e4 : x.returned = y.returned
       ·have d4 : (!decide (x.returned = y.returned)) = false := by rw [dT e4]; rfl
        refine rO ?_;refine rC ?_;refine rO ?_;refine rQ iB ?_;refine rO ?_;refine rC ?_;refine rO ?_;refine rQ iB ?_;refine rO ?_;refine rQ (neq_data rfl rfl rfl rfl (by kernel_rfl) (by decide) (block_eq x.value y.value)) ?_
        refine rQ iF ?_;refine rC ?_
        by_cases e5 : x.value = y.value
        ·have d5 : (!decide (x.value = y.value)) = false := by rw [dT e5]; rfl
         refine rO ?_;refine rC ?_;refine rO ?_;refine rQ iB ?_;refine rO ?_;refine rC ?_;refine rO ?_;refine rQ iB ?_;refine rO ?_;refine rC ?_;refine rQ iF ?_;refine rC ?_
         by_cases e6 : x.err = y.err
         ·have d6 : (!decide (x.err = y.err)) = false := by rw [dT e6]; rfl
          refine rO ?_;refine rC ?_;refine rO ?_;refine rQ iB ?_;refine rO ?_;refine rC ?_;refine rO ?_;refine rQ iB ?_;refine rO ?_;refine rQ (call_r hreq rfl rfl (arg_e (arg_e arg_nil)) (.inl rfl) (fun _ => rfl)) ?_
          refine rO ?_;refine rC ?_;refine rQ iF ?_;refine nS ?_
          by_cases e7 : x.op = y.op
          ·rw [if_pos e7] at hq7
           subst hq7
           have hxy : x = y := by
            cases x; cases y
            simp only [HOp.mk.injEq]
            exact ⟨e0, e1, e2, e7, e3, e4, e5, e6⟩
           refine wG ?_;refine wc_skip ?_;refine blk_n ?_;refine seq_n ?_;refine wc_region ?_;refine rC ?_;refine rQ iD ?_;refine rC ?_;refine reg_nil ?_
           exact loop_n (i + 1) [] ⟨hlt, by rw [List.take_add_one, List.take_add_one, hx, hy, hsame, hxy]⟩ (by omega) (.of rfl rfl rfl rfl rfl ⟨⟨_, rfl, .refl _⟩, rfl, ⟨_, rfl, .refl _⟩, rfl, ⟨_, rfl, .refl _⟩, rfl, trivial⟩ trivial)
          ·rw [if_neg e7] at hq7
           subst hq7
           rw [if_neg (hne fun h => e7 (by rw [h]))]
           refine wV ?_;refine sR ?_;refine rC ?_;refine nS ?_;refine wc_ret ?_;refine blk_r ?_;refine seq_r ?_;refine loop_r ?_;refine blk_r ?_;refine seq_r ?_
           exact ⟨trivial, [], lf⟩
         ·have d6 : (!decide (x.err = y.err)) = true := by rw [dF e6]; rfl
          rw [if_neg (hne fun h => e6 (by rw [h]))]
          iterate 6 refine rS ?_
          refine rQ iT ?_;refine nS ?_;refine wV ?_;refine sR ?_;refine rC ?_;refine nS ?_;refine wc_ret ?_;refine blk_r ?_;refine seq_r ?_;refine loop_r ?_;refine blk_r ?_
          refine seq_r ?_
          exact ⟨trivial, [], lf⟩
        ·have d5 : (!decide (x.value = y.value)) = true := by rw [dF e5]; rfl
         rw [if_neg (hne fun h => e5 (by rw [h]))]
         iterate 5 refine rS ?_
         refine rQ iT ?_;refine rC ?_;iterate 6 refine rT ?_
         refine rQ iU ?_;refine nS ?_;refine wV ?_;refine sR ?_;refine rC ?_;refine nS ?_;refine wc_ret ?_;refine blk_r ?_;refine seq_r ?_;refine loop_r ?_;refine blk_r ?_
         refine seq_r ?_
         exact ⟨trivial, [], lf⟩
       ·have d4 : (!decide (x.returned = y.returned)) = true := by rw [dF e4]; rfl
        rw [if_neg (hne fun h => e4 (by rw [h]))]
        iterate 5 refine rS ?_
        refine rQ iT ?_;refine rC ?_;iterate 5 refine rT ?_
        refine rQ iU ?_;refine rC ?_;iterate 6 refine rT ?_
        refine rQ iU ?_;refine nS ?_;refine wV ?_;refine sR ?_;refine rC ?_;refine nS ?_;refine wc_ret ?_;refine blk_r ?_;refine seq_r ?_;refine loop_r ?_;refine blk_r ?_
        refine seq_r ?_
        exact ⟨trivial, [], lf⟩
      ·have d3 : (!decide (x.invoked = y.invoked)) = true := by rw [dF e3]; rfl
       rw [if_neg (hne fun h => e3 (by rw [h]))]
       iterate 5 refine rS ?_
       refine rQ iT ?_;refine rC ?_;iterate 5 refine rT ?_
       refine rQ iU ?_;refine rC ?_;iterate 5 refine rT ?_
       refine rQ iU ?_;refine rC ?_;iterate 6 refine rT ?_
       refine rQ iU ?_;refine nS ?_;refine wV ?_;refine sR ?_;refine rC ?_;refine nS ?_;refine wc_ret ?_;refine blk_r ?_;refine seq_r ?_;refine loop_r ?_;refine blk_r ?_
       refine seq_r ?_
       exact ⟨trivial, [], lf⟩
     ·have d2 : (!decide (x.era = y.era)) = true := by rw [dF e2]; rfl
      rw [if_neg (hne fun h => e2 (by rw [h]))]
      iterate 5 refine rS ?_
      refine rQ iT ?_;refine rC ?_;iterate 5 refine rT ?_
      refine rQ iU ?_;refine rC ?_;iterate 5 refine rT ?_
      refine rQ iU ?_;refine rC ?_;iterate 5 refine rT ?_
      refine rQ iU ?_;refine rC ?_;iterate 6 refine rT ?_
      refine rQ iU ?_;refine nS ?_;refine wV ?_;refine sR ?_;refine rC ?_;refine nS ?_;refine wc_ret ?_;refine blk_r ?_;refine seq_r ?_;refine loop_r ?_;refine blk_r ?_
      refine seq_r ?_
      exact ⟨trivial, [], lf⟩
    ·have d1 : (!decide (x.number = y.number)) = true := by rw [dF e1]; rfl
     rw [if_neg (hne fun h => e1 (by rw [h]))]
     iterate 5 refine rS ?_
     refine rQ iT ?_;refine rC ?_;iterate 5 refine rT ?_
     refine rQ iU ?_;refine rC ?_;iterate 5 refine rT ?_
     refine rQ iU ?_;refine rC ?_;iterate 5 refine rT ?_
     refine rQ iU ?_;refine rC ?_;iterate 5 refine rT ?_
     refine rQ iU ?_;refine rC ?_;iterate 6 refine rT ?_
     refine rQ iU ?_;refine nS ?_;refine wV ?_;refine sR ?_;refine rC ?_;refine nS ?_;refine wc_ret ?_;refine blk_r ?_;refine seq_r ?_;refine loop_r ?_;refine blk_r ?_
     refine seq_r ?_
     exact ⟨trivial, [], lf⟩
   ·have d0 : (!decide (x.client = y.client)) = true := by rw [dF e0]; rfl
    rw [if_neg (hne fun h => e0 (by rw [h]))]
    iterate 5 refine rS ?_
    refine rQ iT ?_;refine rC ?_;iterate 5 refine rT ?_
    refine rQ iU ?_;refine rC ?_;iterate 5 refine rT ?_
    refine rQ iU ?_;refine rC ?_;iterate 5 refine rT ?_
    refine rQ iU ?_;refine rC ?_;iterate 5 refine rT ?_
    refine rQ iU ?_;refine rC ?_;iterate 5 refine rT ?_
    refine rQ iU ?_;refine rC ?_;iterate 6 refine rT ?_
    refine rQ iU ?_;refine nS ?_;refine wV ?_;refine sR ?_;refine rC ?_;refine nS ?_;refine wc_ret ?_;refine blk_r ?_;refine seq_r ?_;refine loop_r ?_;refine blk_r ?_
    refine seq_r ?_
    exact ⟨trivial, [], lf⟩
  ·have he : i = p.length := by have := of_decide_eq_false h3; omega
   subst he
   rw [if_pos (by rw [List.take_length] at hsame; rw [hsame, hlen, List.take_length])]
   refine wc_exit ?_;refine seq_x ?_;refine loop_x ?_;refine blk_x ?_;refine seq_n ?_;refine sR ?_;refine rC ?_;refine nS ?_;refine wc_ret ?_
   exact ⟨trivial, [], lf⟩
 ·have hd : (!decide ((p.length : Int) = (q.length : Int))) = true := by rw [dF (by omega)]; rfl
  rw [if_neg (fun e => hlen (by rw [e]))]
  refine wT ?_;refine sR ?_;refine rC ?_;refine nS ?_;refine wc_ret ?_;refine seq_r ?_
  exact ⟨trivial, [], lf⟩
theorem ixe_is (n : Int) (xs : List Int) (hL : xs.length ≤ 1000000000) : FnIs Tryz.prog 139 [.d (.arr 1 i6 xs), .int .i64 n] [] (.int .i64 (idxF (fun y => decide (n = y)) xs)) [] := by
 refine fnIs_of tab_ok Tryz.func139 rfl rfl rfl ?_;refine sR ?_;refine rC ?_;refine nQ ?_;refine sR ?_;refine rC ?_;refine rQ iE ?_;refine rC ?_;refine nS ?_;refine wc_block ?_
 refine wc_inv (fun i : Nat => ⟨[(8, .int .i64 i), (7, .int .i64 xs.length), (1, .int .i64 n), (0, .d (.arr 1 i6 xs))], [], 72, Tryz.f139.ntmps, 64⟩) (fun i => i ≤ xs.length ∧ ∀ j, j < i → ∀ y, xs[j]? = some y → decide (n = y) = false) (fun i => xs.length - i) 0 [] ⟨Nat.zero_le _, fun j hj => absurd hj (Nat.not_lt_zero _)⟩
  (.of rfl rfl rfl rfl rfl ⟨⟨_, rfl, .refl _⟩, rfl, ⟨_, rfl, .refl _⟩, rfl, ⟨_, rfl, .refl _⟩, rfl, ⟨_, rfl, .refl _⟩, rfl, trivial⟩ trivial) ?_
 rintro i ⟨hi, hno⟩
 refine wc_of ?_;refine sR ?_;refine rC ?_;refine nQ ?_
 refine wc_cond rfl (fun h2 => ?_) (fun h2 => ?_)
 ·have hlt : i < xs.length := by have := of_decide_eq_true h2; omega
  obtain ⟨x, hx⟩ : ∃ u, xs[i]? = some u := ⟨_, List.getElem?_eq_getElem hlt⟩
  have hx' : xs[((i : Int)).toNat]? = some x := by rw [Int.toNat_natCast]; exact hx
  cases hp : decide (n = x) with
  | true =>
   refine kS ?_;refine wc_seq ?_;refine wc_block ?_;refine sR ?_;iterate 2 refine rC ?_
   refine nR ?_;iterate 3 refine rC ?_
   refine rQ (index_arr tab_ok rfl rfl rfl rfl rfl (by omega) hx') ?_;refine rQ iL ?_;refine rC ?_;refine nS ?_;refine wT ?_;refine sR ?_;iterate 2 refine rC ?_
   refine nS ?_;refine wc_ret ?_;refine blk_r ?_;refine seq_r ?_;refine loop_r ?_;refine blk_r ?_;refine seq_r ?_
   exact ⟨trivial, [], .of rfl rfl rfl rfl rfl ⟨⟨_, rfl, AVLe.of_eq (by rw [idxF_some (p := fun y => decide (n = y)) hx hp hno]; rfl)⟩, rfl, trivial⟩ trivial⟩
  | false =>
   refine kS ?_;refine wc_seq ?_;refine wc_block ?_;refine sR ?_;iterate 2 refine rC ?_
   refine nR ?_;iterate 3 refine rC ?_
   refine rQ (index_arr tab_ok rfl rfl rfl rfl rfl (by omega) hx') ?_;refine rQ iL ?_;refine rC ?_;refine nS ?_;refine wF ?_;refine wc_skip ?_;refine blk_n ?_;refine seq_n ?_
   refine wc_region ?_;refine rQ iD ?_;refine rC ?_;refine reg_nil ?_;refine loop_n (i + 1) [] ⟨hlt, fun j hj y hy => ?_⟩ (by omega) ?_
   ·by_cases e : j = i
    ·subst e
     rw [hx] at hy
     cases hy
     exact hp
    ·exact hno j (by omega) y hy
   ·exact .of rfl rfl rfl rfl rfl ⟨⟨_, rfl, .refl _⟩, rfl, ⟨_, rfl, .refl _⟩, rfl, ⟨_, rfl, .refl _⟩, rfl, ⟨_, rfl, .refl _⟩, rfl, trivial⟩ trivial
 ·have he : i = xs.length := by have := of_decide_eq_false h2; omega
  refine wc_exit ?_;refine seq_x ?_;refine loop_x ?_;refine blk_x ?_;refine seq_n ?_;refine sR ?_;refine rC ?_;refine nS ?_;refine wc_ret ?_
  exact ⟨trivial, [], .of rfl rfl rfl rfl rfl ⟨⟨_, rfl, AVLe.of_eq (by
   rw [idxF_none (p := fun y => decide (n = y)) fun j y hy => hno j (by have := (List.getElem?_eq_some_iff.1 hy).1; omega) y hy]
   rfl)⟩, rfl, trivial⟩ trivial⟩
theorem cte_is (n : Int) (xs : List Int) (hL : xs.length ≤ 1000000000) : FnIs Tryz.prog 116 [.d (.arr 1 i6 xs), .int .i64 n] [] (.bool (xs.any fun y => decide (n = y))) [] := by
 refine fnIs_of tab_ok Tryz.func116 rfl rfl rfl ?_;refine sR ?_;refine rC ?_;refine nR ?_;iterate 2 refine rC ?_
 refine rQ (call_r (ixe_is n xs hL) rfl rfl (arg_e (arg_e arg_nil)) (.inl rfl) (fun _ => rfl)) ?_;iterate 2 refine rC ?_
 refine nS ?_;refine wc_ret ?_
 exact ⟨trivial, [], .of rfl rfl rfl rfl rfl ⟨⟨_, rfl, AVLe.of_eq (by rw [← idxF_any]; rfl)⟩, rfl, trivial⟩ trivial⟩
theorem own_is (x : HEv) (hlen : x.op.data.length ≤ 1048576) : FnIs Tryz.prog 59 [.d (encEv x)] [] (.d (encEv x)) [] := by
 refine fnIs_of tab_ok Tryz.func59 rfl rfl rfl ?_;refine sR ?_;iterate 2 refine rN ?_
 refine nR ?_;iterate 2 refine rC ?_
 refine rQ iB ?_;refine rQ (call_r (exb_is x.op.data hlen) rfl rfl (arg_e arg_nil) (.inl rfl) (fun _ => rfl)) ?_;iterate 2 refine rC ?_
 refine reg_store (store_row tab_ok rfl rfl rfl ⟨_, ⟨_, ⟨_, ⟨_, ⟨rfl, rfl, rfl⟩, rfl⟩, rfl⟩, rfl⟩, rfl⟩ rfl) ?_;refine nR ?_;refine rQ iM ?_;refine rW ?_;refine nS ?_
 refine wc_ret ?_
 exact ⟨trivial, _, rfl, [], lf⟩
end Go.Proofs.YtmojbghcngdkpaaGreatDoor
namespace Go.Proofs.YtmojbghcngdkpaaGreatDoor
open Go.Eng Go.Plain
structure RdS where
 busy : List Int
 number : List Int
 era : Int
 read : Int
 all : List HOp
def zero8 : List Int := [0, 0, 0, 0, 0, 0, 0, 0]
def rd0 : RdS := ⟨zero8, zero8, 0, 0, []⟩
def kn4 (e : Int) : Bool := decide (e = 0) || decide (e = 1) || decide (e = 8) || decide (e = 9)
def inv1 (s : RdS) (x : HEv) : Bool := decide (0 ≤ x.client) && decide (x.client < 8) && decide (s.busy[x.client.toNat]? = some 0) && decide (x.op.data.length ≤ 64) && decide (x.value = zBk) && decide (x.err = 0)
def opOf (s : RdS) (x : HEv) : Option HOp := match s.busy[x.client.toNat]? with
 | some b => s.all[(b - 1).toNat]?
 | none => none
def ret1 (s : RdS) (x : HEv) : Bool := decide (0 ≤ x.client) && decide (x.client < 8) && !decide (s.busy[x.client.toNat]? = some 0) && decide (x.op = zOp) && kn4 x.err && (decide (x.value = zBk) || (match opOf s x with | some o => decide (o.op.kind = 1) && decide (x.err = 0) | none => false))
def crash1 (x : HEv) : Bool := decide (x.client = 0) && decide (x.op = zOp) && decide (x.value = zBk) && decide (x.err = 0)
def takeS (s : RdS) (x : HEv) : RdS × Bool :=
 let c := x.client.toNat
 if x.kind = 1 then
  if inv1 s x then (⟨s.busy.set c (s.all.length + 1), s.number.set c ((s.number[c]?.getD 0) + 1), s.era, s.read + 1, s.all ++ [⟨x.client, s.number[c]?.getD 0, s.era, x.op, s.read, -1, zBk, 0⟩]⟩, true)
  else ({ s with read := s.read + 1 }, false)
 else if x.kind = 2 then
  if ret1 s x then (⟨s.busy.set c 0, s.number, s.era, s.read + 1, match opOf s x with | some o => s.all.set ((s.busy[c]?.getD 0) - 1).toNat { o with returned := s.read, value := x.value, err := x.err } | none => s.all⟩, true)
  else ({ s with read := s.read + 1 }, false)
 else if x.kind = 3 then (⟨zero8, s.number, s.era + 1, s.read + 1, s.all⟩, crash1 x)
 else ({ s with read := s.read + 1 }, false)
structure RdS.Ok (s : RdS) (n : Nat) : Prop where
 blen : s.busy.length = 8
 nlen : s.number.length = 8
 busy : ∀ b ∈ s.busy, 0 ≤ b ∧ b ≤ s.all.length
 number : ∀ b ∈ s.number, 0 ≤ b ∧ b ≤ n
 era : 0 ≤ s.era ∧ s.era ≤ n
 read : s.read = n
 all : s.all.length ≤ n
theorem rd0_ok : rd0.Ok 0 := ⟨rfl, rfl, by decide, by decide, by decide, rfl, by decide⟩
theorem RdS.Ok.next {s : RdS} {n : Nat} (h : s.Ok n) (x : HEv) : (takeS s x).1.Ok (n + 1) := by
 have mset : ∀ {l : List Int} {c : Nat} {v b : Int}, b ∈ l.set c v → b = v ∨ b ∈ l := fun hb => by
  rcases List.mem_or_eq_of_mem_set hb with h | h
  ·exact .inr h
  ·exact .inl h
 have hnum : ∀ c : Nat, 0 ≤ s.number[c]?.getD 0 ∧ s.number[c]?.getD 0 ≤ n := fun c => by
  cases hc : s.number[c]? with
  | none => simp
  | some b => exact h.number b (List.mem_of_getElem? hc)
 have hbase : ({ s with read := s.read + 1 } : RdS).Ok (n + 1) := ⟨h.blen, h.nlen, h.busy, fun b hb => by have := h.number b hb; omega, by have := h.era; constructor <;> simp only <;> omega, by have := h.read; simp only; omega, by have := h.all; simp only; omega⟩
 have h1 := h.era
 have h2 := h.read
 have h3 := h.all
 unfold takeS
 simp only
 by_cases k1 : x.kind = 1
 ·rw [if_pos k1]
  cases hi : inv1 s x with
  | false => simpa using hbase
  | true =>
   simp only [if_pos]
   refine ⟨by simp [h.blen], by simp [h.nlen], fun b hb => ?_, fun b hb => ?_, by constructor <;> simp only <;> omega, by simp only; omega, by simp; omega⟩
   ·rcases mset hb with rfl | hb
    ·constructor
     ·omega
     ·simp
    ·have := h.busy b hb
     simp; omega
   ·rcases mset hb with rfl | hb
    ·have := hnum x.client.toNat
     omega
    ·have := h.number b hb; omega
 ·rw [if_neg k1]
  by_cases k2 : x.kind = 2
  ·rw [if_pos k2]
   cases hi : ret1 s x with
   | false => simpa using hbase
   | true =>
    simp only [if_pos]
    have hl : (match opOf s x with | some o => s.all.set ((s.busy[x.client.toNat]?.getD 0) - 1).toNat { o with returned := s.read, value := x.value, err := x.err } | none => s.all).length = s.all.length := by
     cases opOf s x <;> simp
    refine ⟨by simp [h.blen], h.nlen, fun b hb => ?_, fun b hb => by have := h.number b hb; omega, by constructor <;> simp only <;> omega, by simp only; omega, by simp only [hl]; omega⟩
    simp only [hl]
    rcases mset hb with rfl | hb
    ·omega
    ·exact h.busy b hb
  ·rw [if_neg k2]
   by_cases k3 : x.kind = 3
   ·rw [if_pos k3]
    refine ⟨rfl, h.nlen, fun b hb => ?_, fun b hb => by have := h.number b hb; omega, by constructor <;> simp only <;> omega, by simp only; omega, by simp only; omega⟩
    have : b = 0 := by simpa [zero8] using hb
    simp only
    omega
   ·rw [if_neg k3]; exact hbase
end Go.Proofs.YtmojbghcngdkpaaGreatDoor
namespace Go.Proofs.YtmojbghcngdkpaaGreatDoor
open Go.Eng Go.Plain
set_option maxHeartbeats 8000000
set_option maxRecDepth 20000
attribute [local irreducible] WC RegS RegD SeqQ BlkQ ScoQ RegK CutK Sat SatN FnIs LoopQ StepIs OpIs
abbrev rdRow (s : RdS) (r : Nat) : Row := .box 114 (.acons (.d (.vec 8 1 i6 s.busy)) (.acons (.d (.vec 8 1 i6 s.number)) (.acons (.d (i6 s.era)) (.acons (.d (i6 s.read)) (.acons (.own r 0 s.all.length 41 none) .anil)))))
abbrev opRow (l : List HOp) : Row := .ds 54 41 false encOpn l
abbrev TakeIs (s : RdS) (x : HEv) (s' : RdS) (b : Bool) : Prop := FnIs Tryz.prog 71 [.ptr 0 [], .d (encEv x)] [(0, rdRow s 1), (1, opRow s.all)] (.bool b) [(0, rdRow s' 64), (64, opRow s'.all)]
theorem take_other (s : RdS) (x : HEv) (n : Nat) (hs : s.Ok n) (hn : n ≤ 1000000) (k1 : x.kind ≠ 1) (k2 : x.kind ≠ 2) (k3 : x.kind ≠ 3) (c0 : Bool) (h0 : decide (0 ≤ x.client) = c0) : TakeIs s x { s with read := s.read + 1 } false := by
 have hr := hs.read
 have d1 : decide (x.kind = 1) = false := dF k1
 have d2 : decide (x.kind = 2) = false := dF k2
 have d3 : decide (x.kind = 3) = false := dF k3
 have hw : IntKind.i64.wrap (s.read + 1) = s.read + 1 := wrap_i64 (by omega) (by omega)
 refine fnIs_of tab_ok Tryz.func71 rfl rfl rfl ?_;refine sR ?_;refine rN ?_;refine rC ?_;refine nR ?_;iterate 3 refine rC ?_
 refine rQ iM ?_;refine rC ?_;refine nR ?_;iterate 3 refine rC ?_
 refine rQ iM ?_;refine rQ iD ?_;iterate 2 refine rC ?_
 refine reg_store (store_row tab_ok rfl rfl rfl ⟨_, ⟨_, ⟨rfl, rfl, rfl⟩, rfl⟩, rfl⟩ rfl) ?_;refine nR ?_;refine rC ?_;refine rQ iB ?_;iterate 2 refine rC ?_
 cases c0 with
 | false =>
  iterate 3 refine rS ?_
  refine rQ iF ?_;refine rC ?_;refine nR ?_;refine rC ?_;refine rQ iB ?_;refine rQ (build_array tab_ok rfl rfl rfl) ?_;refine rQ (eql_data rfl rfl rfl rfl (by kernel_rfl) (by decide) (block_eq x.value zBk)) ?_
  refine rC ?_;refine nQ ?_;refine wc_block ?_;refine sR ?_;refine rC ?_;refine rQ iB ?_;iterate 2 refine rC ?_
  refine nS ?_;refine wF ?_;refine sR ?_;refine rC ?_;refine rQ iB ?_;iterate 2 refine rC ?_
  refine nS ?_;refine wF ?_;refine sR ?_;refine rC ?_;refine rQ iB ?_;iterate 2 refine rC ?_
  refine nS ?_;refine wF ?_;refine sR ?_;refine rC ?_;refine nS ?_;refine wc_ret ?_;refine blk_r ?_;refine seq_r ?_
  exact ⟨trivial, [(64, some 1)], .of rfl rfl rfl rfl rfl ⟨⟨_, rfl, AVLe.of_eq rfl⟩, rfl, trivial⟩ ⟨⟨rfl, rfl, _, rfl, .refl _⟩, ⟨rfl, rfl, _, rfl, .refl _⟩, trivial⟩⟩
 | true =>
  refine rO ?_;refine rC ?_;refine rO ?_;refine rQ iB ?_;refine rO ?_;refine rC ?_;refine rQ iT ?_;refine rC ?_;refine nR ?_;refine rC ?_;refine rQ iB ?_;refine rQ (build_array tab_ok rfl rfl rfl) ?_
  refine rQ (eql_data rfl rfl rfl rfl (by kernel_rfl) (by decide) (block_eq x.value zBk)) ?_;refine rC ?_;refine nQ ?_;refine wc_block ?_;refine sR ?_;refine rC ?_
  refine rQ iB ?_;iterate 2 refine rC ?_
  refine nS ?_;refine wF ?_;refine sR ?_;refine rC ?_;refine rQ iB ?_;iterate 2 refine rC ?_
  refine nS ?_;refine wF ?_;refine sR ?_;refine rC ?_;refine rQ iB ?_;iterate 2 refine rC ?_
  refine nS ?_;refine wF ?_;refine sR ?_;refine rC ?_;refine nS ?_;refine wc_ret ?_;refine blk_r ?_;refine seq_r ?_
  exact ⟨trivial, [(64, some 1)], .of rfl rfl rfl rfl rfl ⟨⟨_, rfl, AVLe.of_eq rfl⟩, rfl, trivial⟩ ⟨⟨rfl, rfl, _, rfl, .refl _⟩, ⟨rfl, rfl, _, rfl, .refl _⟩, trivial⟩⟩
theorem take_crash (s : RdS) (x : HEv) (n : Nat) (hs : s.Ok n) (hn : n ≤ 1000000) (k3 : x.kind = 3) (c0 c1 c2 c3 : Bool) (h0 : decide (0 ≤ x.client) = c0) (h1 : decide (x.client = 0) = c1) (h2 : decide (x.op = zOp) = c2) (h3 : decide (x.value = zBk) = c3) : TakeIs s x ⟨zero8, s.number, s.era + 1, s.read + 1, s.all⟩ (c1 && c2 && c3 && decide (x.err = 0)) := by
 have hr := hs.read
 have he := hs.era
 have d1 : decide (x.kind = 1) = false := dF (by omega)
 have d2 : decide (x.kind = 2) = false := dF (by omega)
 have d3 : decide (x.kind = 3) = true := dT k3
 have hw : IntKind.i64.wrap (s.read + 1) = s.read + 1 := wrap_i64 (by omega) (by omega)
 have hw2 : IntKind.i64.wrap (s.era + 1) = s.era + 1 := wrap_i64 (by omega) (by omega)
 refine fnIs_of tab_ok Tryz.func71 rfl rfl rfl ?_;refine sR ?_;refine rN ?_;refine rC ?_;refine nR ?_;iterate 3 refine rC ?_
 refine rQ iM ?_;refine rC ?_;refine nR ?_;iterate 3 refine rC ?_
 refine rQ iM ?_;refine rQ iD ?_;iterate 2 refine rC ?_
 refine reg_store (store_row tab_ok rfl rfl rfl ⟨_, ⟨_, ⟨rfl, rfl, rfl⟩, rfl⟩, rfl⟩ rfl) ?_;refine nR ?_;refine rC ?_;refine rQ iB ?_;iterate 2 refine rC ?_
 cases c0 with
 | false =>
  have e1 : c1 = false := by rw [← h1]; exact dF (by have := of_decide_eq_false h0; omega)
  subst e1
  iterate 3 refine rS ?_
  refine rQ iF ?_;refine rC ?_;refine nR ?_;refine rC ?_;refine rQ iB ?_;refine rQ (build_array tab_ok rfl rfl rfl) ?_;refine rQ (eql_data rfl rfl rfl rfl (by kernel_rfl) (by decide) (block_eq x.value zBk)) ?_
  refine rC ?_;refine nQ ?_;refine wc_block ?_;refine sR ?_;refine rC ?_;refine rQ iB ?_;iterate 2 refine rC ?_
  refine nS ?_;refine wF ?_;refine sR ?_;refine rC ?_;refine rQ iB ?_;iterate 2 refine rC ?_
  refine nS ?_;refine wF ?_;refine sR ?_;refine rC ?_;refine rQ iB ?_;iterate 2 refine rC ?_
  refine nS ?_;refine wT ?_;refine sR ?_;iterate 3 refine rC ?_
  refine rQ (slice_ptr tab_ok rfl rfl rfl) ?_;refine reg_do rfl (clear_asl (enc := i6) (s := 1) (L := 8) tab_ok (0 : Int) rfl rfl rfl rfl rfl rfl rfl rfl ⟨_, ⟨_, ⟨rfl, rfl, rfl⟩, rfl⟩, rfl⟩) rfl rfl ?_
  refine nR ?_;iterate 3 refine rC ?_
  refine rQ iM ?_;refine rQ iD ?_;iterate 2 refine rC ?_
  refine reg_store (store_row tab_ok rfl rfl rfl ⟨_, ⟨_, ⟨rfl, rfl, rfl⟩, rfl⟩, rfl⟩ rfl) ?_;refine nR ?_;refine rC ?_;refine rQ iB ?_;iterate 2 refine rC ?_
  iterate 3 refine rS ?_
  refine rQ iF ?_;refine rC ?_;refine rT ?_;refine rQ iG ?_;refine rC ?_;iterate 3 refine rT ?_
  refine rQ iG ?_;refine rC ?_;refine nS ?_;refine wc_ret ?_;refine blk_r ?_;refine seq_r ?_
  exact ⟨trivial, [(64, some 1)], .of rfl rfl rfl rfl rfl ⟨⟨_, rfl, AVLe.of_eq rfl⟩, rfl, trivial⟩ ⟨⟨rfl, rfl, _, rfl, .refl _⟩, ⟨rfl, rfl, _, rfl, .refl _⟩, trivial⟩⟩
 | true =>
  refine rO ?_;refine rC ?_;refine rO ?_;refine rQ iB ?_;refine rO ?_;refine rC ?_;refine rQ iT ?_;refine rC ?_;refine nR ?_;refine rC ?_;refine rQ iB ?_;refine rQ (build_array tab_ok rfl rfl rfl) ?_
  refine rQ (eql_data rfl rfl rfl rfl (by kernel_rfl) (by decide) (block_eq x.value zBk)) ?_;refine rC ?_;refine nQ ?_;refine wc_block ?_;refine sR ?_;refine rC ?_
  refine rQ iB ?_;iterate 2 refine rC ?_
  refine nS ?_;refine wF ?_;refine sR ?_;refine rC ?_;refine rQ iB ?_;iterate 2 refine rC ?_
  refine nS ?_;refine wF ?_;refine sR ?_;refine rC ?_;refine rQ iB ?_;iterate 2 refine rC ?_
  refine nS ?_;refine wT ?_;refine sR ?_;iterate 3 refine rC ?_
  refine rQ (slice_ptr tab_ok rfl rfl rfl) ?_;refine reg_do rfl (clear_asl (enc := i6) (s := 1) (L := 8) tab_ok (0 : Int) rfl rfl rfl rfl rfl rfl rfl rfl ⟨_, ⟨_, ⟨rfl, rfl, rfl⟩, rfl⟩, rfl⟩) rfl rfl ?_
  refine nR ?_;iterate 3 refine rC ?_
  refine rQ iM ?_;refine rQ iD ?_;iterate 2 refine rC ?_
  refine reg_store (store_row tab_ok rfl rfl rfl ⟨_, ⟨_, ⟨rfl, rfl, rfl⟩, rfl⟩, rfl⟩ rfl) ?_;refine nR ?_;refine rC ?_;refine rQ iB ?_;iterate 2 refine rC ?_
  cases c1 with
  | false =>
   iterate 3 refine rS ?_
   refine rQ iF ?_;refine rC ?_;refine rT ?_;refine rQ iG ?_;refine rC ?_;iterate 3 refine rT ?_
   refine rQ iG ?_;refine rC ?_;refine nS ?_;refine wc_ret ?_;refine blk_r ?_;refine seq_r ?_
   exact ⟨trivial, [(64, some 1)], .of rfl rfl rfl rfl rfl ⟨⟨_, rfl, AVLe.of_eq rfl⟩, rfl, trivial⟩ ⟨⟨rfl, rfl, _, rfl, .refl _⟩, ⟨rfl, rfl, _, rfl, .refl _⟩, trivial⟩⟩
  | true =>
   refine rO ?_;refine rC ?_;refine rO ?_;refine rQ iB ?_;refine rO ?_;refine rQ (call_r (blank_is x.op) rfl rfl (arg_e arg_nil) (.inl rfl) (fun _ => rfl)) ?_;refine rQ iT ?_
   refine rC ?_
   cases c2 with
   | false =>
    refine rS ?_;refine rQ iF ?_;refine rC ?_;iterate 3 refine rT ?_
    refine rQ iG ?_;refine rC ?_;refine nS ?_;refine wc_ret ?_;refine blk_r ?_;refine seq_r ?_
    exact ⟨trivial, [(64, some 1)], .of rfl rfl rfl rfl rfl ⟨⟨_, rfl, AVLe.of_eq rfl⟩, rfl, trivial⟩ ⟨⟨rfl, rfl, _, rfl, .refl _⟩, ⟨rfl, rfl, _, rfl, .refl _⟩, trivial⟩⟩
   | true =>
    refine rO ?_;refine rC ?_;refine rQ iT ?_;refine rC ?_
    cases c3 with
    | false =>
     iterate 3 refine rS ?_
     refine rQ iF ?_;refine rC ?_;refine nS ?_;refine wc_ret ?_;refine blk_r ?_;refine seq_r ?_
     exact ⟨trivial, [(64, some 1)], .of rfl rfl rfl rfl rfl ⟨⟨_, rfl, AVLe.of_eq rfl⟩, rfl, trivial⟩ ⟨⟨rfl, rfl, _, rfl, .refl _⟩, ⟨rfl, rfl, _, rfl, .refl _⟩, trivial⟩⟩
    | true =>
     refine rO ?_;refine rC ?_;refine rO ?_;refine rQ iB ?_;refine rO ?_;refine rC ?_;refine rQ iT ?_;refine rC ?_;refine nS ?_;refine wc_ret ?_;refine blk_r ?_;refine seq_r ?_
     exact ⟨trivial, [(64, some 1)], .of rfl rfl rfl rfl rfl ⟨⟨_, rfl, AVLe.of_eq rfl⟩, rfl, trivial⟩ ⟨⟨rfl, rfl, _, rfl, .refl _⟩, ⟨rfl, rfl, _, rfl, .refl _⟩, trivial⟩⟩
theorem take_inv (s : RdS) (x : HEv) (n : Nat) (hs : s.Ok n) (hn : n ≤ 1000000) (k1 : x.kind = 1) (m : Int) (hc0 : 0 ≤ x.client) (hc8 : x.client < 8) (hbg : s.busy[x.client.toNat]? = some 0) (hng : s.number[x.client.toNat]? = some m) (hd64 : x.op.data.length ≤ 64) (hval : x.value = zBk) (herr : x.err = 0) :
  TakeIs s x ⟨s.busy.set x.client.toNat ((s.all.length + 1 : Nat) : Int), s.number.set x.client.toNat (m + 1), s.era, s.read + 1, s.all ++ [⟨x.client, m, s.era, x.op, s.read, -1, zBk, 0⟩]⟩ true := by
 have hr := hs.read
 have ha := hs.all
 have hm := hs.number m (List.mem_of_getElem? hng)
 have d1 : decide (x.kind = 1) = true := dT k1
 have c0 : decide (0 ≤ x.client) = true := dT hc0
 have c8 : decide (x.client < 8) = true := dT hc8
 have n8 : (!decide (x.client < 8)) = false := by rw [c8]; rfl
 have b0 : decide ((0 : Int) < 0) = false := rfl
 have l64 : decide ((64 : Int) < ((byI x.op.data).length : Int)) = false := dF (by rw [byI_len]; omega)
 have v0 : (!decide (x.value = zBk)) = false := by rw [dT hval]; rfl
 have e0 : (!decide (x.err = 0)) = false := by rw [dT herr]; rfl
 have hw : IntKind.i64.wrap (s.read + 1) = s.read + 1 := wrap_i64 (by omega) (by omega)
 have hwm : IntKind.i64.wrap (m + 1) = m + 1 := wrap_i64 (by omega) (by omega)
 have hlen : x.op.data.length ≤ 1048576 := by omega
 have hal : s.all.length + 1 ≤ 1048576 := by omega
 simp only [TakeIs, rdRow, List.length_append, List.length_cons, List.length_nil, Nat.zero_add]
 refine fnIs_of tab_ok Tryz.func71 rfl rfl rfl ?_;refine sR ?_;refine rN ?_;refine rC ?_;refine nR ?_;iterate 3 refine rC ?_
 refine rQ iM ?_;refine rC ?_;refine nR ?_;iterate 3 refine rC ?_
 refine rQ iM ?_;refine rQ iD ?_;iterate 2 refine rC ?_
 refine reg_store (store_row tab_ok rfl rfl rfl ⟨_, ⟨_, ⟨rfl, rfl, rfl⟩, rfl⟩, rfl⟩ rfl) ?_;refine nR ?_;refine rC ?_;refine rQ iB ?_;iterate 2 refine rC ?_
 refine rO ?_;refine rC ?_;refine rO ?_;refine rQ iB ?_;refine rO ?_;refine rC ?_;refine rQ iT ?_;refine rC ?_;refine nR ?_;refine rC ?_;refine rQ iB ?_;refine rQ (build_array tab_ok rfl rfl rfl) ?_
 refine rQ (eql_data rfl rfl rfl rfl (by kernel_rfl) (by decide) (block_eq x.value zBk)) ?_;refine rC ?_;refine nQ ?_;refine wc_block ?_;refine sR ?_;refine rC ?_
 refine rQ iB ?_;iterate 2 refine rC ?_
 refine nS ?_;refine wT ?_;iterate 2 refine wc_seq ?_
 refine wc_draw (by kernel_rfl) ?_;refine dC [6] [] ?_;refine dC [37] [] ?_;refine dC [38] [] ?_;refine dreg_onq [39, 0] [] rfl rfl (by assumption) rfl (step_C tab_ok (fun K hk => hk)) ?_
 refine dreg_onq [39, 3] [] rfl rfl (by assumption) rfl (step_C tab_ok (fun K hk => hk)) ?_;refine dreg_onq [39, 41] [64] rfl rfl (by assumption) rfl (load_box tab_ok rfl rfl ⟨_, rfl, rfl⟩ rfl) ?_
 refine dreg_onq [39, 40] [] rfl rfl (by assumption) rfl (step_C tab_ok (fun K hk => hk)) ?_;refine dreg_onq [39, 43] [] rfl rfl (by assumption) rfl (step_C tab_ok (fun K hk => hk)) ?_
 refine dreg_onq [39, 44, 42] [] rfl rfl (by assumption) rfl (step_C tab_ok (fun K hk => ⟨by omega, by omega, hk⟩)) ?_;refine dreg_onq [39, 45] [0] rfl rfl (by assumption) rfl (load_box tab_ok rfl rfl ⟨_, ⟨rfl, _, hbg, rfl⟩, rfl⟩ rfl) ?_
 refine dreg_onq [39, 46] [] rfl rfl (by assumption) rfl (step_C tab_ok (fun K hk => hk)) ?_;refine dQ [39, 47] [] iF ?_;refine dC [48] [] ?_;refine dreg_onq [49, 3] [] rfl rfl rfl rfl (step_C tab_ok (fun K hk => hk)) ?_
 refine dreg_onq [49, 50] [] rfl rfl rfl rfl (step_C tab_ok (fun K hk => hk)) ?_;refine dreg_onq [49, 51] [64] rfl rfl rfl rfl (load_box tab_ok rfl rfl ⟨_, rfl, rfl⟩ rfl) ?_
 refine dreg_onq [49, 52] [] rfl rfl rfl rfl (len_arr tab_ok rfl rfl) ?_;refine dreg_onq [49, 53] [] rfl rfl rfl rfl (step_C tab_ok (fun K hk => hk)) ?_;refine dQ [49, 54] [] iG ?_
 refine dC [55] [] ?_;refine dreg_onq [56, 7] [] rfl rfl (by assumption) rfl (step_C tab_ok (fun K hk => hk)) ?_;refine dreg_onq [56, 57] [] rfl rfl (by assumption) rfl (step_C tab_ok (fun K hk => hk)) ?_
 refine dQ [56, 58] [] iF ?_;refine dC [59] [] ?_;refine dreg_onq [60, 3] [] rfl rfl (by assumption) rfl (step_C tab_ok (fun K hk => hk)) ?_;refine dreg_onq [60, 61] [64] rfl rfl (by assumption) rfl (load_box tab_ok rfl rfl ⟨_, rfl, rfl⟩ rfl) ?_
 refine dreg_onq [60, 62] [] rfl rfl (by assumption) rfl (step_C tab_ok (fun K hk => hk)) ?_;refine dQ [60, 63] [] iF ?_;refine dreg_end (by kernel_rfl) ?_;refine seq_n ?_
 refine wF ?_;refine kS ?_;refine sR ?_;iterate 2 refine rC ?_
 refine rQ iB ?_;refine rQ (call_r (exb_is x.op.data hlen) rfl rfl (arg_e arg_nil) (.inl rfl) (fun _ => rfl)) ?_;iterate 2 refine rC ?_
 refine reg_store (store_row tab_ok rfl rfl rfl ⟨_, ⟨_, ⟨_, ⟨_, ⟨rfl, rfl, rfl⟩, rfl⟩, rfl⟩, rfl⟩, rfl⟩ rfl) ?_;refine nQ ?_;refine wc_draw (by kernel_rfl) ?_;iterate 2 refine dC [0] [] ?_
 refine dC [72] [] ?_;refine dC [73] [] ?_;refine dQ [74] [0] iM ?_;refine dC [3] [] ?_;refine dQ [76] [64] iB ?_;refine dC [0] [] ?_;refine dC [3] [] ?_;refine dQ [79] [64] iB ?_
 refine dC [78] [] ?_;refine dC [81] [] ?_;refine dQ [82, 80] [] (step_C tab_ok (fun K hk => ⟨by omega, by omega, hk⟩)) ?_;refine dQ [83] [0] (load_box tab_ok rfl rfl ⟨_, ⟨rfl, _, hng, rfl⟩, rfl⟩ rfl) ?_
 refine dC [0] [] ?_;refine dC [85] [] ?_;refine dC [86] [] ?_;refine dQ [87] [0] iM ?_;refine dC [3] [] ?_;refine dQ [89] [64] iB ?_;refine dC [5] [] ?_;refine dQ [77, 84, 88, 90, 91] [] iS ?_
 refine dreg_w [92] [] rfl (build_slice (s := 41) tab_ok rfl rfl rfl rfl rfl rfl rfl rfl) ?_;refine dreg_w2 [75, 93] [1, 784] rfl (append_one (enc := encOpn) (s := 41) (xs := s.all) tab_ok ⟨x.client, m, s.era, x.op, s.read, -1, zBk, 0⟩ rfl rfl rfl rfl rfl rfl rfl rfl rfl hal rfl) ?_
 refine dC [71] [] ?_;refine dC [95] [] ?_;refine dreg_s [96, 94] [0] (store_row tab_ok rfl rfl rfl ⟨_, ⟨_, ⟨rfl, rfl, rfl⟩, rfl⟩, rfl⟩ rfl) ?_;refine dreg_end (by kernel_rfl) ?_
 refine seq_n ?_;refine wc_seq ?_;refine wc_draw (by kernel_rfl) ?_;refine dC [0] [] ?_;refine dC [3] [] ?_;refine dQ [98] [64] iB ?_;refine dC [97] [] ?_;refine dC [100] [] ?_
 refine dQ [101, 99] [] (step_C tab_ok (fun K hk => ⟨by omega, by omega, hk⟩)) ?_;refine dQ [102] [0] (load_box tab_ok rfl rfl ⟨_, ⟨rfl, _, hng, rfl⟩, rfl⟩ rfl) ?_
 refine dQ [103] [] iD ?_;refine dC [97] [] ?_;refine dC [105] [] ?_;refine dQ [106, 99] [] (step_C tab_ok (fun K hk => ⟨by omega, by omega, hk⟩)) ?_;refine dreg_s [107, 104] [0] (store_row tab_ok rfl rfl rfl ⟨_, ⟨_, ⟨_, ⟨rfl, _, m + 1, hng, ⟨rfl, rfl, rfl⟩, rfl⟩, rfl⟩, rfl⟩, rfl⟩ rfl) ?_
 refine dreg_end (by kernel_rfl) ?_;refine seq_n ?_;refine wc_draw (by kernel_rfl) ?_;refine dC [0] [] ?_;refine dC [3] [] ?_;refine dQ [109] [64] iB ?_;refine dC [0] [] ?_
 refine dC [111] [] ?_;refine dC [112] [] ?_;refine dQ [113] [0] iM ?_;refine dQ [114] [792] (len_own tab_ok rfl rfl) ?_;refine dC [108] [] ?_;refine dC [116] [] ?_
 refine dQ [117, 110] [] (step_C tab_ok (fun K hk => ⟨by omega, by omega, hk⟩)) ?_;refine dreg_s [118, 115] [0] (store_row tab_ok rfl rfl rfl ⟨_, ⟨_, ⟨_, ⟨rfl, _, ((s.all.length + 1 : Nat) : Int), hbg, ⟨rfl, rfl, rfl⟩, rfl⟩, rfl⟩, rfl⟩, rfl⟩ rfl) ?_
 refine dreg_end (by kernel_rfl) ?_;refine blk_n ?_;refine seq_n ?_;refine sR ?_;refine rC ?_;refine nS ?_;refine wc_ret ?_
 exact ⟨trivial, [(64, some _)], .of rfl rfl rfl rfl rfl ⟨⟨_, rfl, AVLe.of_eq rfl⟩, rfl, trivial⟩ ⟨⟨rfl, rfl, _, rfl, .refl _⟩, ⟨rfl, rfl, _, rfl, .refl _⟩, trivial⟩⟩
theorem take_inv_no (s : RdS) (x : HEv) (n : Nat) (hs : s.Ok n) (hn : n ≤ 1000000) (k1 : x.kind = 1) (hno : inv1 s x = false) : TakeIs s x { s with read := s.read + 1 } false := by
 have hr := hs.read
 have d1 : decide (x.kind = 1) = true := dT k1
 have hw : IntKind.i64.wrap (s.read + 1) = s.read + 1 := wrap_i64 (by omega) (by omega)
 refine fnIs_of tab_ok Tryz.func71 rfl rfl rfl ?_;refine sR ?_;refine rN ?_;refine rC ?_;refine nR ?_;iterate 3 refine rC ?_
 refine rQ iM ?_;refine rC ?_;refine nR ?_;iterate 3 refine rC ?_
 refine rQ iM ?_;refine rQ iD ?_;iterate 2 refine rC ?_
 refine reg_store (store_row tab_ok rfl rfl rfl ⟨_, ⟨_, ⟨rfl, rfl, rfl⟩, rfl⟩, rfl⟩ rfl) ?_;refine nR ?_;refine rC ?_;refine rQ iB ?_;iterate 2 refine rC ?_
 by_cases hc0 : 0 ≤ x.client
 ·have c0 : decide (0 ≤ x.client) = true := dT hc0
  refine rO ?_;refine rC ?_;refine rO ?_;refine rQ iB ?_;refine rO ?_;refine rC ?_;refine rQ iT ?_;refine rC ?_;refine nR ?_;refine rC ?_;refine rQ iB ?_;refine rQ (build_array tab_ok rfl rfl rfl) ?_
  refine rQ (eql_data rfl rfl rfl rfl (by kernel_rfl) (by decide) (block_eq x.value zBk)) ?_;refine rC ?_;refine nQ ?_;refine wc_block ?_;refine sR ?_;refine rC ?_
  refine rQ iB ?_;iterate 2 refine rC ?_
  refine nS ?_;refine wT ?_;iterate 2 refine wc_seq ?_
  refine wc_draw (by kernel_rfl) ?_;refine dC [6] [] ?_;refine dC [37] [] ?_;refine dC [38] [] ?_
  by_cases hc8 : x.client < 8
  ·have c8 : decide (x.client < 8) = true := dT hc8
   have n8 : (!decide (x.client < 8)) = false := by rw [c8]; rfl
   obtain ⟨b, hbg⟩ : ∃ b, s.busy[x.client.toNat]? = some b := ⟨_, List.getElem?_eq_getElem (by rw [hs.blen]; omega)⟩
   have hb := hs.busy b (List.mem_of_getElem? hbg)
   refine dreg_onq [39, 0] [] rfl rfl (by assumption) rfl (step_C tab_ok (fun K hk => hk)) ?_;refine dreg_onq [39, 3] [] rfl rfl (by assumption) rfl (step_C tab_ok (fun K hk => hk)) ?_
   refine dreg_onq [39, 41] [64] rfl rfl (by assumption) rfl (load_box tab_ok rfl rfl ⟨_, rfl, rfl⟩ rfl) ?_;refine dreg_onq [39, 40] [] rfl rfl (by assumption) rfl (step_C tab_ok (fun K hk => hk)) ?_
   refine dreg_onq [39, 43] [] rfl rfl (by assumption) rfl (step_C tab_ok (fun K hk => hk)) ?_;refine dreg_onq [39, 44, 42] [] rfl rfl (by assumption) rfl (step_C tab_ok (fun K hk => ⟨by omega, by omega, hk⟩)) ?_
   refine dreg_onq [39, 45] [0] rfl rfl (by assumption) rfl (load_box tab_ok rfl rfl ⟨_, ⟨rfl, _, hbg, rfl⟩, rfl⟩ rfl) ?_;refine dreg_onq [39, 46] [] rfl rfl (by assumption) rfl (step_C tab_ok (fun K hk => hk)) ?_
   refine dQ [39, 47] [] iF ?_;refine dC [48] [] ?_
   by_cases hb0 : b = 0
   ·have b0 : decide (0 < b) = false := dF (by omega)
    refine dreg_onq [49, 3] [] rfl rfl (by assumption) rfl (step_C tab_ok (fun K hk => hk)) ?_;refine dreg_onq [49, 50] [] rfl rfl (by assumption) rfl (step_C tab_ok (fun K hk => hk)) ?_
    refine dreg_onq [49, 51] [64] rfl rfl (by assumption) rfl (load_box tab_ok rfl rfl ⟨_, rfl, rfl⟩ rfl) ?_;refine dreg_onq [49, 52] [] rfl rfl (by assumption) rfl (len_arr tab_ok rfl rfl) ?_
    refine dreg_onq [49, 53] [] rfl rfl (by assumption) rfl (step_C tab_ok (fun K hk => hk)) ?_;refine dQ [49, 54] [] iF ?_;refine dC [55] [] ?_
    by_cases hd : x.op.data.length ≤ 64
    ·have l64 : decide ((64 : Int) < ((byI x.op.data).length : Int)) = false := dF (by rw [byI_len]; omega)
     refine dreg_onq [56, 7] [] rfl rfl (by assumption) rfl (step_C tab_ok (fun K hk => hk)) ?_;refine dreg_onq [56, 57] [] rfl rfl (by assumption) rfl (step_C tab_ok (fun K hk => hk)) ?_
     refine dQ [56, 58] [] iF ?_;refine dC [59] [] ?_
     by_cases hv : x.value = zBk
     ·have v0 : (!decide (x.value = zBk)) = false := by rw [dT hv]; rfl
      have e0 : (!decide (x.err = 0)) = true := by
       skip
       cases h : decide (x.err = 0) with
       | false => rfl
       | true =>
        rw [inv1, c0, c8, hbg, hb0, dT hd, dT hv, h] at hno
        cases hno
      refine dreg_onq [60, 3] [] rfl rfl (by assumption) rfl (step_C tab_ok (fun K hk => hk)) ?_;refine dreg_onq [60, 61] [64] rfl rfl (by assumption) rfl (load_box tab_ok rfl rfl ⟨_, rfl, rfl⟩ rfl) ?_
      refine dreg_onq [60, 62] [] rfl rfl (by assumption) rfl (step_C tab_ok (fun K hk => hk)) ?_;refine dQ [60, 63] [] iF ?_;refine dreg_end (by kernel_rfl) ?_;refine seq_n ?_
      refine wT ?_;refine sR ?_;refine rC ?_;refine nS ?_;refine wc_ret ?_;refine seq_r ?_;refine blk_r ?_;refine seq_r ?_
      exact ⟨trivial, [(64, some 1)], .of rfl rfl rfl rfl rfl ⟨⟨_, rfl, AVLe.of_eq rfl⟩, rfl, trivial⟩ ⟨⟨rfl, rfl, _, rfl, .refl _⟩, ⟨rfl, rfl, _, rfl, .refl _⟩, trivial⟩⟩
     ·have v0 : (!decide (x.value = zBk)) = true := by rw [dF hv]; rfl
      refine dreg_offq [60, 3] rfl rfl (by assumption) rfl ?_;refine dreg_offq [60, 61] rfl rfl (by assumption) rfl ?_;refine dreg_offq [60, 62] rfl rfl (by assumption) rfl ?_
      refine dQ [60, 63] [] iT ?_;refine dreg_end (by kernel_rfl) ?_;refine seq_n ?_;refine wV ?_;refine sR ?_;refine rC ?_;refine nS ?_;refine wc_ret ?_;refine seq_r ?_
      refine blk_r ?_;refine seq_r ?_
      exact ⟨trivial, [(64, some 1)], .of rfl rfl rfl rfl rfl ⟨⟨_, rfl, AVLe.of_eq rfl⟩, rfl, trivial⟩ ⟨⟨rfl, rfl, _, rfl, .refl _⟩, ⟨rfl, rfl, _, rfl, .refl _⟩, trivial⟩⟩
    ·have l64 : decide ((64 : Int) < ((byI x.op.data).length : Int)) = true := dT (by rw [byI_len]; omega)
     refine dreg_offq [56, 7] rfl rfl (by assumption) rfl ?_;refine dreg_offq [56, 57] rfl rfl (by assumption) rfl ?_;refine dQ [56, 58] [] iT ?_;refine dC [59] [] ?_
     refine dreg_offq [60, 3] rfl rfl rfl rfl ?_;refine dreg_offq [60, 61] rfl rfl rfl rfl ?_;refine dreg_offq [60, 62] rfl rfl rfl rfl ?_;refine dQ [60, 63] [] iU ?_
     refine dreg_end (by kernel_rfl) ?_;refine seq_n ?_;refine wV ?_;refine sR ?_;refine rC ?_;refine nS ?_;refine wc_ret ?_;refine seq_r ?_;refine blk_r ?_;refine seq_r ?_
     exact ⟨trivial, [(64, some 1)], .of rfl rfl rfl rfl rfl ⟨⟨_, rfl, AVLe.of_eq rfl⟩, rfl, trivial⟩ ⟨⟨rfl, rfl, _, rfl, .refl _⟩, ⟨rfl, rfl, _, rfl, .refl _⟩, trivial⟩⟩
   ·have b0 : decide (0 < b) = true := dT (by omega)
    refine dreg_offq [49, 3] rfl rfl (by assumption) rfl ?_;refine dreg_offq [49, 50] rfl rfl (by assumption) rfl ?_;refine dreg_offq [49, 51] rfl rfl (by assumption) rfl ?_
    refine dreg_offq [49, 52] rfl rfl (by assumption) rfl ?_;refine dreg_offq [49, 53] rfl rfl (by assumption) rfl ?_;refine dQ [49, 54] [] iT ?_;refine dC [55] [] ?_
    refine dreg_offq [56, 7] rfl rfl rfl rfl ?_;refine dreg_offq [56, 57] rfl rfl rfl rfl ?_;refine dQ [56, 58] [] iU ?_;refine dC [59] [] ?_;refine dreg_offq [60, 3] rfl rfl rfl rfl ?_
    refine dreg_offq [60, 61] rfl rfl rfl rfl ?_;refine dreg_offq [60, 62] rfl rfl rfl rfl ?_;refine dQ [60, 63] [] iU ?_;refine dreg_end (by kernel_rfl) ?_;refine seq_n ?_
    refine wV ?_;refine sR ?_;refine rC ?_;refine nS ?_;refine wc_ret ?_;refine seq_r ?_;refine blk_r ?_;refine seq_r ?_
    exact ⟨trivial, [(64, some 1)], .of rfl rfl rfl rfl rfl ⟨⟨_, rfl, AVLe.of_eq rfl⟩, rfl, trivial⟩ ⟨⟨rfl, rfl, _, rfl, .refl _⟩, ⟨rfl, rfl, _, rfl, .refl _⟩, trivial⟩⟩
  ·have c8 : decide (x.client < 8) = false := dF hc8
   have n8 : (!decide (x.client < 8)) = true := by rw [c8]; rfl
   refine dreg_offq [39, 0] rfl rfl (by assumption) rfl ?_;refine dreg_offq [39, 3] rfl rfl (by assumption) rfl ?_;refine dreg_offq [39, 41] rfl rfl (by assumption) rfl ?_
   refine dreg_offq [39, 40] rfl rfl (by assumption) rfl ?_;refine dreg_offq [39, 43] rfl rfl (by assumption) rfl ?_;refine dreg_offq [39, 44, 42] rfl rfl (by assumption) rfl ?_
   refine dreg_offq [39, 45] rfl rfl (by assumption) rfl ?_;refine dreg_offq [39, 46] rfl rfl (by assumption) rfl ?_;refine dQ [39, 47] [] iT ?_;refine dC [48] [] ?_
   refine dreg_offq [49, 3] rfl rfl rfl rfl ?_;refine dreg_offq [49, 50] rfl rfl rfl rfl ?_;refine dreg_offq [49, 51] rfl rfl rfl rfl ?_;refine dreg_offq [49, 52] rfl rfl rfl rfl ?_
   refine dreg_offq [49, 53] rfl rfl rfl rfl ?_;refine dQ [49, 54] [] iU ?_;refine dC [55] [] ?_;refine dreg_offq [56, 7] rfl rfl rfl rfl ?_;refine dreg_offq [56, 57] rfl rfl rfl rfl ?_
   refine dQ [56, 58] [] iU ?_;refine dC [59] [] ?_;refine dreg_offq [60, 3] rfl rfl rfl rfl ?_;refine dreg_offq [60, 61] rfl rfl rfl rfl ?_;refine dreg_offq [60, 62] rfl rfl rfl rfl ?_
   refine dQ [60, 63] [] iU ?_;refine dreg_end (by kernel_rfl) ?_;refine seq_n ?_;refine wV ?_;refine sR ?_;refine rC ?_;refine nS ?_;refine wc_ret ?_;refine seq_r ?_
   refine blk_r ?_;refine seq_r ?_
   exact ⟨trivial, [(64, some 1)], .of rfl rfl rfl rfl rfl ⟨⟨_, rfl, AVLe.of_eq rfl⟩, rfl, trivial⟩ ⟨⟨rfl, rfl, _, rfl, .refl _⟩, ⟨rfl, rfl, _, rfl, .refl _⟩, trivial⟩⟩
 ·have c0 : decide (0 ≤ x.client) = false := dF hc0
  iterate 3 refine rS ?_
  refine rQ iF ?_;refine rC ?_;refine nR ?_;refine rC ?_;refine rQ iB ?_;refine rQ (build_array tab_ok rfl rfl rfl) ?_;refine rQ (eql_data rfl rfl rfl rfl (by kernel_rfl) (by decide) (block_eq x.value zBk)) ?_
  refine rC ?_;refine nQ ?_;refine wc_block ?_;refine sR ?_;refine rC ?_;refine rQ iB ?_;iterate 2 refine rC ?_
  refine nS ?_;refine wT ?_;iterate 2 refine wc_seq ?_
  refine wc_draw (by kernel_rfl) ?_;refine dC [6] [] ?_;refine dC [37] [] ?_;refine dC [38] [] ?_;refine dreg_offq [39, 0] rfl rfl rfl rfl ?_;refine dreg_offq [39, 3] rfl rfl rfl rfl ?_
  refine dreg_offq [39, 41] rfl rfl rfl rfl ?_;refine dreg_offq [39, 40] rfl rfl rfl rfl ?_;refine dreg_offq [39, 43] rfl rfl rfl rfl ?_;refine dreg_offq [39, 44, 42] rfl rfl rfl rfl ?_
  refine dreg_offq [39, 45] rfl rfl rfl rfl ?_;refine dreg_offq [39, 46] rfl rfl rfl rfl ?_;refine dQ [39, 47] [] iU ?_;refine dC [48] [] ?_;refine dreg_offq [49, 3] rfl rfl rfl rfl ?_
  refine dreg_offq [49, 50] rfl rfl rfl rfl ?_;refine dreg_offq [49, 51] rfl rfl rfl rfl ?_;refine dreg_offq [49, 52] rfl rfl rfl rfl ?_;refine dreg_offq [49, 53] rfl rfl rfl rfl ?_
  refine dQ [49, 54] [] iU ?_;refine dC [55] [] ?_;refine dreg_offq [56, 7] rfl rfl rfl rfl ?_;refine dreg_offq [56, 57] rfl rfl rfl rfl ?_;refine dQ [56, 58] [] iU ?_
  refine dC [59] [] ?_;refine dreg_offq [60, 3] rfl rfl rfl rfl ?_;refine dreg_offq [60, 61] rfl rfl rfl rfl ?_;refine dreg_offq [60, 62] rfl rfl rfl rfl ?_;refine dQ [60, 63] [] iU ?_
  refine dreg_end (by kernel_rfl) ?_;refine seq_n ?_;refine wV ?_;refine sR ?_;refine rC ?_;refine nS ?_;refine wc_ret ?_;refine seq_r ?_;refine blk_r ?_;refine seq_r ?_
  exact ⟨trivial, [(64, some 1)], .of rfl rfl rfl rfl rfl ⟨⟨_, rfl, AVLe.of_eq rfl⟩, rfl, trivial⟩ ⟨⟨rfl, rfl, _, rfl, .refl _⟩, ⟨rfl, rfl, _, rfl, .refl _⟩, trivial⟩⟩
theorem kn4_any (e : Int) : ([0, 1, 8, 9] : List Int).any (fun y => decide (e = y)) = kn4 e := by simp [kn4, Bool.or_assoc]
theorem take_ret_w (s : RdS) (x : HEv) (n : Nat) (hs : s.Ok n) (hn : n ≤ 1000000) (k2 : x.kind = 2) (b : Int) (o : HOp) (hc0 : 0 ≤ x.client) (hc8 : x.client < 8) (hbg : s.busy[x.client.toNat]? = some b) (hb0 : b ≠ 0) (hog : s.all[(b - 1).toNat]? = some o) (hz : x.op = zOp) (c1 c2 c3 : Bool) (h1 : (!([0, 1, 8, 9] : List Int).any (fun y => decide (x.err = y))) = c1) (h2 : (!decide (x.value = zBk)) = c2) (h3 : (!decide (o.op.kind = 1)) = c3) (h4 : (c1 || c2 && (c3 || !decide (x.err = 0))) = false) :
  TakeIs s x ⟨s.busy.set x.client.toNat 0, s.number, s.era, s.read + 1, s.all.set (b - 1).toNat { o with returned := s.read, value := x.value, err := x.err }⟩ true := by
 have hr := hs.read
 have ha := hs.all
 have hb := hs.busy b (List.mem_of_getElem? hbg)
 have d1 : decide (x.kind = 1) = false := dF (by omega)
 have d2 : decide (x.kind = 2) = true := dT k2
 have c0 : decide (0 ≤ x.client) = true := dT hc0
 have c8 : decide (x.client < 8) = true := dT hc8
 have n8 : (!decide (x.client < 8)) = false := by rw [c8]; rfl
 have b0 : decide (b = 0) = false := dF hb0
 have z0 : (!decide (x.op = zOp)) = false := by rw [dT hz]; rfl
 have hw : IntKind.i64.wrap (s.read + 1) = s.read + 1 := wrap_i64 (by omega) (by omega)
 have hwb : IntKind.i64.wrap (b - 1) = b - 1 := wrap_i64 (by omega) (by omega)
 have hlt : b - 1 < (s.all.length : Int) := by omega
 have hge : 0 ≤ b - 1 := by omega
 have hjl := (List.getElem?_eq_some_iff.1 hog).1
 have hog1 : (s.all.set (b - 1).toNat { o with returned := s.read })[(b - 1).toNat]? = some { o with returned := s.read } := List.getElem?_set_self hjl
 have hog2 : (s.all.set (b - 1).toNat { o with returned := s.read, value := x.value })[(b - 1).toNat]? = some { o with returned := s.read, value := x.value } := List.getElem?_set_self hjl
 simp only [TakeIs, rdRow, List.length_set]
 refine fnIs_of tab_ok Tryz.func71 rfl rfl rfl ?_;refine sR ?_;refine rN ?_;refine rC ?_;refine nR ?_;iterate 3 refine rC ?_
 refine rQ iM ?_;refine rC ?_;refine nR ?_;iterate 3 refine rC ?_
 refine rQ iM ?_;refine rQ iD ?_;iterate 2 refine rC ?_
 refine reg_store (store_row tab_ok rfl rfl rfl ⟨_, ⟨_, ⟨rfl, rfl, rfl⟩, rfl⟩, rfl⟩ rfl) ?_;refine nR ?_;refine rC ?_;refine rQ iB ?_;iterate 2 refine rC ?_
 refine rO ?_;refine rC ?_;refine rO ?_;refine rQ iB ?_;refine rO ?_;refine rC ?_;refine rQ iT ?_;refine rC ?_;refine nR ?_;refine rC ?_;refine rQ iB ?_;refine rQ (build_array tab_ok rfl rfl rfl) ?_
 refine rQ (eql_data rfl rfl rfl rfl (by kernel_rfl) (by decide) (block_eq x.value zBk)) ?_;refine rC ?_;refine nQ ?_;refine wc_block ?_;refine sR ?_;refine rC ?_
 refine rQ iB ?_;iterate 2 refine rC ?_
 refine nS ?_;refine wF ?_;refine sR ?_;refine rC ?_;refine rQ iB ?_;iterate 2 refine rC ?_
 refine nS ?_;refine wT ?_;iterate 2 refine wc_seq ?_
 refine wc_draw (by kernel_rfl) ?_;refine dC [6] [] ?_;refine dC [123] [] ?_;refine dC [124] [] ?_;refine dreg_onq [125, 0] [] rfl rfl (by assumption) rfl (step_C tab_ok (fun K hk => hk)) ?_
 refine dreg_onq [125, 3] [] rfl rfl (by assumption) rfl (step_C tab_ok (fun K hk => hk)) ?_;refine dreg_onq [125, 127] [64] rfl rfl (by assumption) rfl (load_box tab_ok rfl rfl ⟨_, rfl, rfl⟩ rfl) ?_
 refine dreg_onq [125, 126] [] rfl rfl (by assumption) rfl (step_C tab_ok (fun K hk => hk)) ?_;refine dreg_onq [125, 129] [] rfl rfl (by assumption) rfl (step_C tab_ok (fun K hk => hk)) ?_
 refine dreg_onq [125, 130, 128] [] rfl rfl (by assumption) rfl (step_C tab_ok (fun K hk => ⟨by omega, by omega, hk⟩)) ?_;refine dreg_onq [125, 131] [0] rfl rfl (by assumption) rfl (load_box tab_ok rfl rfl ⟨_, ⟨rfl, _, hbg, rfl⟩, rfl⟩ rfl) ?_
 refine dreg_onq [125, 132] [] rfl rfl (by assumption) rfl (step_C tab_ok (fun K hk => hk)) ?_;refine dQ [125, 133] [] iF ?_;refine dC [134] [] ?_;refine dreg_onq [135, 3] [] rfl rfl (by assumption) rfl (step_C tab_ok (fun K hk => hk)) ?_
 refine dreg_onq [135, 136] [64] rfl rfl (by assumption) rfl (load_box tab_ok rfl rfl ⟨_, rfl, rfl⟩ rfl) ?_;refine dreg_onq [135, 137] [] rfl rfl (by assumption) rfl (call_r (blank_is x.op) rfl rfl (arg_e arg_nil) (.inl rfl) (fun _ => rfl)) ?_
 refine dreg_onq [135, 138] [] rfl rfl (by assumption) rfl (step_C tab_ok (fun K hk => hk)) ?_;refine dQ [135, 139] [] iF ?_;refine dreg_end (by kernel_rfl) ?_;refine seq_n ?_
 refine wF ?_;refine kS ?_;refine wc_seq ?_;refine wc_draw (by kernel_rfl) ?_;refine dC [0] [] ?_;refine dC [141] [] ?_;refine dC [142] [] ?_;refine dQ [143] [0] iM ?_
 refine dC [0] [] ?_;refine dC [3] [] ?_;refine dQ [146] [64] iB ?_;refine dC [145] [] ?_;refine dC [148] [] ?_;refine dQ [149, 147] [] (step_C tab_ok (fun K hk => ⟨by omega, by omega, hk⟩)) ?_
 refine dQ [150] [0] (load_box tab_ok rfl rfl ⟨_, ⟨rfl, _, hbg, rfl⟩, rfl⟩ rfl) ?_;refine dQ [151] [] (sub_int tab_ok rfl rfl hwb) ?_;refine dQ [144, 152] [] (index_own tab_ok rfl rfl rfl rfl rfl (by omega) (by omega)) ?_
 refine dC [153] [] ?_;refine dreg_end (by kernel_rfl) ?_;refine seq_n ?_;refine sR ?_;refine rQ (StepIs.frozen (build_slice (s := 1) tab_ok rfl rfl rfl rfl rfl rfl rfl rfl) (Frz.litsN (enc := i6) [0, 1, 8, 9] rfl (fun _ _ => rfl))) ?_
 refine rC ?_;refine rQ iB ?_;refine rQ (call_r (cte_is x.err [0, 1, 8, 9] (by decide)) rfl rfl (arg_e (arg_e arg_nil)) (.inl rfl) (fun _ => rfl)) ?_;refine rC ?_
 refine nQ ?_;refine sR ?_;iterate 3 refine rC ?_
 cases c1 with
 | true => cases h4
 | false =>
  refine rO ?_;refine rC ?_;refine rO ?_;refine rC ?_;refine rO ?_;refine rC ?_
  cases c2 with
  | false =>
   iterate 7 refine rS ?_
   iterate 3 refine rU ?_
   refine rS ?_;refine rO ?_;iterate 2 refine rQ iF ?_
   refine nS ?_;refine wG ?_;refine kS ?_;refine wc_seq ?_;refine wc_draw (by kernel_rfl) ?_;iterate 3 refine dC [8] [] ?_
   refine dC [5] [] ?_;refine dC [3] [] ?_;refine dQ [181] [64] iB ?_;refine dC [3] [] ?_;refine dQ [183] [64] iB ?_;refine dC [177] [] ?_;refine dC [185] [] ?_;refine dreg_s [186, 180] [1] (store_row (row' := opRow (s.all.set (b - 1).toNat { o with returned := s.read })) tab_ok rfl rfl rfl ⟨rfl, o, { o with returned := s.read }, hog, ⟨_, ⟨rfl, rfl, rfl⟩, rfl⟩, rfl⟩ rfl) ?_
   refine dC [178] [] ?_;refine dC [187] [] ?_;refine dreg_s [188, 182] [1] (store_row (row' := opRow (s.all.set (b - 1).toNat { o with returned := s.read, value := x.value })) tab_ok rfl rfl rfl ⟨rfl, _, { o with returned := s.read, value := x.value }, hog1, ⟨_, ⟨rfl, rfl, rfl⟩, rfl⟩, (by rw [List.set_set])⟩ rfl) ?_
   refine dC [179] [] ?_;refine dC [189] [] ?_;refine dreg_s [190, 184] [1] (store_row (row' := opRow (s.all.set (b - 1).toNat { o with returned := s.read, value := x.value, err := x.err })) tab_ok rfl rfl rfl ⟨rfl, _, { o with returned := s.read, value := x.value, err := x.err }, hog2, ⟨_, ⟨rfl, rfl, rfl⟩, rfl⟩, (by rw [List.set_set])⟩ rfl) ?_
   refine dreg_end (by kernel_rfl) ?_;refine seq_n ?_;refine wc_draw (by kernel_rfl) ?_;refine dC [0] [] ?_;refine dC [3] [] ?_;refine dQ [192] [64] iB ?_;refine dC [191] [] ?_
   refine dC [194] [] ?_;refine dQ [195, 193] [] (step_C tab_ok (fun K hk => ⟨by omega, by omega, hk⟩)) ?_;refine dreg_s [196] [0] (store_row tab_ok rfl rfl rfl ⟨_, ⟨_, ⟨_, ⟨rfl, _, 0, hbg, ⟨rfl, rfl, rfl⟩, rfl⟩, rfl⟩, rfl⟩, rfl⟩ rfl) ?_
   refine dreg_end (by kernel_rfl) ?_;refine blk_n ?_;refine seq_n ?_;refine sR ?_;refine rC ?_;refine nS ?_;refine wc_ret ?_
   exact ⟨trivial, [(64, some 1)], .of rfl rfl rfl rfl rfl ⟨⟨_, rfl, AVLe.of_eq rfl⟩, rfl, trivial⟩ ⟨⟨rfl, rfl, _, rfl, .refl _⟩, ⟨rfl, rfl, _, rfl, .refl _⟩, trivial⟩⟩
  | true =>
   refine rO ?_;refine rC ?_;refine rO ?_;refine rC ?_;refine rO ?_;refine rC ?_;refine rO ?_;refine rC ?_;refine rO ?_;refine rQ (load_row tab_ok rfl rfl ⟨rfl, o, hog, _, rfl, rfl⟩ rfl) ?_
   refine rO ?_;refine rC ?_;refine rO ?_;refine rC ?_
   cases c3 with
   | true => cases h4
   | false =>
    have e0 : (!decide (x.err = 0)) = false := h4
    refine rO ?_;refine rC ?_;refine rO ?_;refine rQ iB ?_;refine rO ?_;refine rC ?_;refine rO ?_;refine rQ iF ?_;refine rO ?_;refine rQ iT ?_;refine rQ iF ?_;refine nS ?_
    refine wF ?_;refine kS ?_;refine wc_seq ?_;refine wc_draw (by kernel_rfl) ?_;iterate 3 refine dC [8] [] ?_
    refine dC [5] [] ?_;refine dC [3] [] ?_;refine dQ [181] [64] iB ?_;refine dC [3] [] ?_;refine dQ [183] [64] iB ?_;refine dC [177] [] ?_;refine dC [185] [] ?_;refine dreg_s [186, 180] [1] (store_row (row' := opRow (s.all.set (b - 1).toNat { o with returned := s.read })) tab_ok rfl rfl rfl ⟨rfl, o, { o with returned := s.read }, hog, ⟨_, ⟨rfl, rfl, rfl⟩, rfl⟩, rfl⟩ rfl) ?_
    refine dC [178] [] ?_;refine dC [187] [] ?_;refine dreg_s [188, 182] [1] (store_row (row' := opRow (s.all.set (b - 1).toNat { o with returned := s.read, value := x.value })) tab_ok rfl rfl rfl ⟨rfl, _, { o with returned := s.read, value := x.value }, hog1, ⟨_, ⟨rfl, rfl, rfl⟩, rfl⟩, (by rw [List.set_set])⟩ rfl) ?_
    refine dC [179] [] ?_;refine dC [189] [] ?_;refine dreg_s [190, 184] [1] (store_row (row' := opRow (s.all.set (b - 1).toNat { o with returned := s.read, value := x.value, err := x.err })) tab_ok rfl rfl rfl ⟨rfl, _, { o with returned := s.read, value := x.value, err := x.err }, hog2, ⟨_, ⟨rfl, rfl, rfl⟩, rfl⟩, (by rw [List.set_set])⟩ rfl) ?_
    refine dreg_end (by kernel_rfl) ?_;refine seq_n ?_;refine wc_draw (by kernel_rfl) ?_;refine dC [0] [] ?_;refine dC [3] [] ?_;refine dQ [192] [64] iB ?_;refine dC [191] [] ?_
    refine dC [194] [] ?_;refine dQ [195, 193] [] (step_C tab_ok (fun K hk => ⟨by omega, by omega, hk⟩)) ?_;refine dreg_s [196] [0] (store_row tab_ok rfl rfl rfl ⟨_, ⟨_, ⟨_, ⟨rfl, _, 0, hbg, ⟨rfl, rfl, rfl⟩, rfl⟩, rfl⟩, rfl⟩, rfl⟩ rfl) ?_
    refine dreg_end (by kernel_rfl) ?_;refine blk_n ?_;refine seq_n ?_;refine sR ?_;refine rC ?_;refine nS ?_;refine wc_ret ?_
    exact ⟨trivial, [(64, some 1)], .of rfl rfl rfl rfl rfl ⟨⟨_, rfl, AVLe.of_eq rfl⟩, rfl, trivial⟩ ⟨⟨rfl, rfl, _, rfl, .refl _⟩, ⟨rfl, rfl, _, rfl, .refl _⟩, trivial⟩⟩
theorem take_ret_no (s : RdS) (x : HEv) (n : Nat) (hs : s.Ok n) (hn : n ≤ 1000000) (k2 : x.kind = 2) (hno : ret1 s x = false) : TakeIs s x { s with read := s.read + 1 } false := by
 have hr := hs.read
 have ha := hs.all
 have d1 : decide (x.kind = 1) = false := dF (by omega)
 have d2 : decide (x.kind = 2) = true := dT k2
 have hw : IntKind.i64.wrap (s.read + 1) = s.read + 1 := wrap_i64 (by omega) (by omega)
 refine fnIs_of tab_ok Tryz.func71 rfl rfl rfl ?_;refine sR ?_;refine rN ?_;refine rC ?_;refine nR ?_;iterate 3 refine rC ?_
 refine rQ iM ?_;refine rC ?_;refine nR ?_;iterate 3 refine rC ?_
 refine rQ iM ?_;refine rQ iD ?_;iterate 2 refine rC ?_
 refine reg_store (store_row tab_ok rfl rfl rfl ⟨_, ⟨_, ⟨rfl, rfl, rfl⟩, rfl⟩, rfl⟩ rfl) ?_;refine nR ?_;refine rC ?_;refine rQ iB ?_;iterate 2 refine rC ?_
 by_cases hc0 : 0 ≤ x.client
 ·have c0 : decide (0 ≤ x.client) = true := dT hc0
  refine rO ?_;refine rC ?_;refine rO ?_;refine rQ iB ?_;refine rO ?_;refine rC ?_;refine rQ iT ?_;refine rC ?_;refine nR ?_;refine rC ?_;refine rQ iB ?_;refine rQ (build_array tab_ok rfl rfl rfl) ?_
  refine rQ (eql_data rfl rfl rfl rfl (by kernel_rfl) (by decide) (block_eq x.value zBk)) ?_;refine rC ?_;refine nQ ?_;refine wc_block ?_;refine sR ?_;refine rC ?_
  refine rQ iB ?_;iterate 2 refine rC ?_
  refine nS ?_;refine wF ?_;refine sR ?_;refine rC ?_;refine rQ iB ?_;iterate 2 refine rC ?_
  refine nS ?_;refine wT ?_;iterate 2 refine wc_seq ?_
  refine wc_draw (by kernel_rfl) ?_;refine dC [6] [] ?_;refine dC [123] [] ?_;refine dC [124] [] ?_
  by_cases hc8 : x.client < 8
  ·have c8 : decide (x.client < 8) = true := dT hc8
   have n8 : (!decide (x.client < 8)) = false := by rw [c8]; rfl
   obtain ⟨b, hbg⟩ : ∃ b, s.busy[x.client.toNat]? = some b := ⟨_, List.getElem?_eq_getElem (by rw [hs.blen]; omega)⟩
   have hb := hs.busy b (List.mem_of_getElem? hbg)
   refine dreg_onq [125, 0] [] rfl rfl (by assumption) rfl (step_C tab_ok (fun K hk => hk)) ?_;refine dreg_onq [125, 3] [] rfl rfl (by assumption) rfl (step_C tab_ok (fun K hk => hk)) ?_
   refine dreg_onq [125, 127] [64] rfl rfl (by assumption) rfl (load_box tab_ok rfl rfl ⟨_, rfl, rfl⟩ rfl) ?_;refine dreg_onq [125, 126] [] rfl rfl (by assumption) rfl (step_C tab_ok (fun K hk => hk)) ?_
   refine dreg_onq [125, 129] [] rfl rfl (by assumption) rfl (step_C tab_ok (fun K hk => hk)) ?_;refine dreg_onq [125, 130, 128] [] rfl rfl (by assumption) rfl (step_C tab_ok (fun K hk => ⟨by omega, by omega, hk⟩)) ?_
   refine dreg_onq [125, 131] [0] rfl rfl (by assumption) rfl (load_box tab_ok rfl rfl ⟨_, ⟨rfl, _, hbg, rfl⟩, rfl⟩ rfl) ?_;refine dreg_onq [125, 132] [] rfl rfl (by assumption) rfl (step_C tab_ok (fun K hk => hk)) ?_
   refine dQ [125, 133] [] iF ?_;refine dC [134] [] ?_
   by_cases hb0 : b = 0
   ·have b0 : decide (b = 0) = true := dT hb0
    refine dreg_offq [135, 3] rfl rfl (by assumption) rfl ?_;refine dreg_offq [135, 136] rfl rfl (by assumption) rfl ?_;refine dreg_offq [135, 137] rfl rfl (by assumption) rfl ?_
    refine dreg_offq [135, 138] rfl rfl (by assumption) rfl ?_;refine dQ [135, 139] [] iT ?_;refine dreg_end (by kernel_rfl) ?_;refine seq_n ?_;refine wV ?_;refine sR ?_
    refine rC ?_;refine nS ?_;refine wc_ret ?_;refine seq_r ?_;refine blk_r ?_;refine seq_r ?_
    exact ⟨trivial, [(64, some 1)], .of rfl rfl rfl rfl rfl ⟨⟨_, rfl, AVLe.of_eq rfl⟩, rfl, trivial⟩ ⟨⟨rfl, rfl, _, rfl, .refl _⟩, ⟨rfl, rfl, _, rfl, .refl _⟩, trivial⟩⟩
   ·have b0 : decide (b = 0) = false := dF hb0
    refine dreg_onq [135, 3] [] rfl rfl (by assumption) rfl (step_C tab_ok (fun K hk => hk)) ?_;refine dreg_onq [135, 136] [64] rfl rfl (by assumption) rfl (load_box tab_ok rfl rfl ⟨_, rfl, rfl⟩ rfl) ?_
    refine dreg_onq [135, 137] [] rfl rfl (by assumption) rfl (call_r (blank_is x.op) rfl rfl (arg_e arg_nil) (.inl rfl) (fun _ => rfl)) ?_;refine dreg_onq [135, 138] [] rfl rfl (by assumption) rfl (step_C tab_ok (fun K hk => hk)) ?_
    refine dQ [135, 139] [] iF ?_;refine dreg_end (by kernel_rfl) ?_;refine seq_n ?_
    by_cases hz : x.op = zOp
    ·have z0 : (!decide (x.op = zOp)) = false := by rw [dT hz]; rfl
     have hwb : IntKind.i64.wrap (b - 1) = b - 1 := wrap_i64 (by omega) (by omega)
     have hlt : b - 1 < (s.all.length : Int) := by omega
     have hge : 0 ≤ b - 1 := by omega
     obtain ⟨o, hog⟩ : ∃ o, s.all[(b - 1).toNat]? = some o := ⟨_, List.getElem?_eq_getElem (by omega)⟩
     obtain ⟨c1, h1⟩ : ∃ c, (!([0, 1, 8, 9] : List Int).any (fun y => decide (x.err = y))) = c := ⟨_, rfl⟩
     obtain ⟨c2, h2⟩ : ∃ c, (!decide (x.value = zBk)) = c := ⟨_, rfl⟩
     obtain ⟨c3, h3⟩ : ∃ c, (!decide (o.op.kind = 1)) = c := ⟨_, rfl⟩
     obtain ⟨c4, h4⟩ : ∃ c, (!decide (x.err = 0)) = c := ⟨_, rfl⟩
     have hc : (c1 || c2 && (c3 || c4)) = true := by
      have hkn : kn4 x.err = !c1 := by rw [← h1, ← kn4_any, Bool.not_not]
      have hv2 : decide (x.value = zBk) = !c2 := by rw [← h2, Bool.not_not]
      have hk3 : decide (o.op.kind = 1) = !c3 := by rw [← h3, Bool.not_not]
      have he4 : decide (x.err = 0) = !c4 := by rw [← h4, Bool.not_not]
      have hb' : decide (some b = some (0 : Int)) = false := dF (by simpa using hb0)
      have ho : opOf s x = some o := by rw [opOf, hbg]; exact hog
      rw [ret1, c0, c8, hbg, hb', dT hz, hkn, hv2, ho] at hno
      simp only [hk3, he4] at hno
      revert hno
      cases c1 <;> cases c2 <;> cases c3 <;> cases c4 <;> decide
     refine wF ?_;refine kS ?_;refine wc_seq ?_;refine wc_draw (by kernel_rfl) ?_;refine dC [0] [] ?_;refine dC [141] [] ?_;refine dC [142] [] ?_;refine dQ [143] [0] iM ?_
     refine dC [0] [] ?_;refine dC [3] [] ?_;refine dQ [146] [64] iB ?_;refine dC [145] [] ?_;refine dC [148] [] ?_;refine dQ [149, 147] [] (step_C tab_ok (fun K hk => ⟨by omega, by omega, hk⟩)) ?_
     refine dQ [150] [0] (load_box tab_ok rfl rfl ⟨_, ⟨rfl, _, hbg, rfl⟩, rfl⟩ rfl) ?_;refine dQ [151] [] (sub_int tab_ok rfl rfl hwb) ?_;refine dQ [144, 152] [] (index_own tab_ok rfl rfl rfl rfl rfl (by omega) (by omega)) ?_
     refine dC [153] [] ?_;refine dreg_end (by kernel_rfl) ?_;refine seq_n ?_;refine sR ?_;refine rQ (StepIs.frozen (build_slice (s := 1) tab_ok rfl rfl rfl rfl rfl rfl rfl rfl) (Frz.litsN (enc := i6) [0, 1, 8, 9] rfl (fun _ _ => rfl))) ?_
     refine rC ?_;refine rQ iB ?_;refine rQ (call_r (cte_is x.err [0, 1, 8, 9] (by decide)) rfl rfl (arg_e (arg_e arg_nil)) (.inl rfl) (fun _ => rfl)) ?_;refine rC ?_
     refine nQ ?_;refine sR ?_;iterate 3 refine rC ?_
     cases c1 with
     | true =>
      iterate 3 refine rS ?_
      iterate 11 refine rU ?_
      refine rS ?_;refine rQ iT ?_;refine nS ?_;refine wV ?_;refine sR ?_;refine rC ?_;refine nS ?_;refine wc_ret ?_;refine seq_r ?_;refine blk_r ?_;refine seq_r ?_
      exact ⟨trivial, [(64, some 1)], .of rfl rfl rfl rfl rfl ⟨⟨_, rfl, AVLe.of_eq rfl⟩, rfl, trivial⟩ ⟨⟨rfl, rfl, _, rfl, .refl _⟩, ⟨rfl, rfl, _, rfl, .refl _⟩, trivial⟩⟩
     | false =>
      refine rO ?_;refine rC ?_;refine rO ?_;refine rC ?_;refine rO ?_;refine rC ?_
      cases c2 with
      | false => cases hc
      | true =>
       refine rO ?_;refine rC ?_;refine rO ?_;refine rC ?_;refine rO ?_;refine rC ?_;refine rO ?_;refine rC ?_;refine rO ?_;refine rQ (load_row tab_ok rfl rfl ⟨rfl, o, hog, _, rfl, rfl⟩ rfl) ?_
       refine rO ?_;refine rC ?_;refine rO ?_;refine rC ?_
       cases c3 with
       | true =>
        iterate 3 refine rS ?_
        refine rO ?_;refine rQ iT ?_;refine rO ?_;refine rQ iT ?_;refine rQ iF ?_;refine nS ?_;refine wV ?_;refine sR ?_;refine rC ?_;refine nS ?_;refine wc_ret ?_;refine seq_r ?_
        refine blk_r ?_;refine seq_r ?_
        exact ⟨trivial, [(64, some 1)], .of rfl rfl rfl rfl rfl ⟨⟨_, rfl, AVLe.of_eq rfl⟩, rfl, trivial⟩ ⟨⟨rfl, rfl, _, rfl, .refl _⟩, ⟨rfl, rfl, _, rfl, .refl _⟩, trivial⟩⟩
       | false =>
        refine rO ?_;refine rC ?_;refine rO ?_;refine rQ iB ?_;refine rO ?_;refine rC ?_;refine rO ?_;refine rQ iF ?_;refine rO ?_;refine rQ iT ?_;refine rQ iF ?_;refine nS ?_
        cases c4 with
        | false => cases hc
        | true =>
         refine wT ?_;refine sR ?_;refine rC ?_;refine nS ?_;refine wc_ret ?_;refine seq_r ?_;refine blk_r ?_;refine seq_r ?_
         exact ⟨trivial, [(64, some 1)], .of rfl rfl rfl rfl rfl ⟨⟨_, rfl, AVLe.of_eq rfl⟩, rfl, trivial⟩ ⟨⟨rfl, rfl, _, rfl, .refl _⟩, ⟨rfl, rfl, _, rfl, .refl _⟩, trivial⟩⟩
    ·have z0 : (!decide (x.op = zOp)) = true := by rw [dF hz]; rfl
     refine wT ?_;refine sR ?_;refine rC ?_;refine nS ?_;refine wc_ret ?_;refine seq_r ?_;refine blk_r ?_;refine seq_r ?_
     exact ⟨trivial, [(64, some 1)], .of rfl rfl rfl rfl rfl ⟨⟨_, rfl, AVLe.of_eq rfl⟩, rfl, trivial⟩ ⟨⟨rfl, rfl, _, rfl, .refl _⟩, ⟨rfl, rfl, _, rfl, .refl _⟩, trivial⟩⟩
  ·have c8 : decide (x.client < 8) = false := dF hc8
   have n8 : (!decide (x.client < 8)) = true := by rw [c8]; rfl
   refine dreg_offq [125, 0] rfl rfl (by assumption) rfl ?_;refine dreg_offq [125, 3] rfl rfl (by assumption) rfl ?_;refine dreg_offq [125, 127] rfl rfl (by assumption) rfl ?_
   refine dreg_offq [125, 126] rfl rfl (by assumption) rfl ?_;refine dreg_offq [125, 129] rfl rfl (by assumption) rfl ?_;refine dreg_offq [125, 130, 128] rfl rfl (by assumption) rfl ?_
   refine dreg_offq [125, 131] rfl rfl (by assumption) rfl ?_;refine dreg_offq [125, 132] rfl rfl (by assumption) rfl ?_;refine dQ [125, 133] [] iT ?_;refine dC [134] [] ?_
   refine dreg_offq [135, 3] rfl rfl rfl rfl ?_;refine dreg_offq [135, 136] rfl rfl rfl rfl ?_;refine dreg_offq [135, 137] rfl rfl rfl rfl ?_;refine dreg_offq [135, 138] rfl rfl rfl rfl ?_
   refine dQ [135, 139] [] iU ?_;refine dreg_end (by kernel_rfl) ?_;refine seq_n ?_;refine wV ?_;refine sR ?_;refine rC ?_;refine nS ?_;refine wc_ret ?_;refine seq_r ?_
   refine blk_r ?_;refine seq_r ?_
   exact ⟨trivial, [(64, some 1)], .of rfl rfl rfl rfl rfl ⟨⟨_, rfl, AVLe.of_eq rfl⟩, rfl, trivial⟩ ⟨⟨rfl, rfl, _, rfl, .refl _⟩, ⟨rfl, rfl, _, rfl, .refl _⟩, trivial⟩⟩
 ·have c0 : decide (0 ≤ x.client) = false := dF hc0
  iterate 3 refine rS ?_
  refine rQ iF ?_;refine rC ?_;refine nR ?_;refine rC ?_;refine rQ iB ?_;refine rQ (build_array tab_ok rfl rfl rfl) ?_;refine rQ (eql_data rfl rfl rfl rfl (by kernel_rfl) (by decide) (block_eq x.value zBk)) ?_
  refine rC ?_;refine nQ ?_;refine wc_block ?_;refine sR ?_;refine rC ?_;refine rQ iB ?_;iterate 2 refine rC ?_
  refine nS ?_;refine wF ?_;refine sR ?_;refine rC ?_;refine rQ iB ?_;iterate 2 refine rC ?_
  refine nS ?_;refine wT ?_;iterate 2 refine wc_seq ?_
  refine wc_draw (by kernel_rfl) ?_;refine dC [6] [] ?_;refine dC [123] [] ?_;refine dC [124] [] ?_;refine dreg_offq [125, 0] rfl rfl rfl rfl ?_;refine dreg_offq [125, 3] rfl rfl rfl rfl ?_
  refine dreg_offq [125, 127] rfl rfl rfl rfl ?_;refine dreg_offq [125, 126] rfl rfl rfl rfl ?_;refine dreg_offq [125, 129] rfl rfl rfl rfl ?_;refine dreg_offq [125, 130, 128] rfl rfl rfl rfl ?_
  refine dreg_offq [125, 131] rfl rfl rfl rfl ?_;refine dreg_offq [125, 132] rfl rfl rfl rfl ?_;refine dQ [125, 133] [] iU ?_;refine dC [134] [] ?_;refine dreg_offq [135, 3] rfl rfl rfl rfl ?_
  refine dreg_offq [135, 136] rfl rfl rfl rfl ?_;refine dreg_offq [135, 137] rfl rfl rfl rfl ?_;refine dreg_offq [135, 138] rfl rfl rfl rfl ?_;refine dQ [135, 139] [] iU ?_
  refine dreg_end (by kernel_rfl) ?_;refine seq_n ?_;refine wV ?_;refine sR ?_;refine rC ?_;refine nS ?_;refine wc_ret ?_;refine seq_r ?_;refine blk_r ?_;refine seq_r ?_
  exact ⟨trivial, [(64, some 1)], .of rfl rfl rfl rfl rfl ⟨⟨_, rfl, AVLe.of_eq rfl⟩, rfl, trivial⟩ ⟨⟨rfl, rfl, _, rfl, .refl _⟩, ⟨rfl, rfl, _, rfl, .refl _⟩, trivial⟩⟩
theorem take_is (s : RdS) (x : HEv) (n : Nat) (hs : s.Ok n) (hn : n ≤ 1000000) : TakeIs s x (takeS s x).1 (takeS s x).2 := by
 by_cases k1 : x.kind = 1
 ·cases hi : inv1 s x with
  | false =>
   have h := take_inv_no s x n hs hn k1 hi
   have e : takeS s x = ({ s with read := s.read + 1 }, false) := by simp [takeS, k1, hi]
   rw [e]; exact h
  | true =>
   have hi' := hi
   simp only [inv1, Bool.and_eq_true, decide_eq_true_eq] at hi'
   obtain ⟨⟨⟨⟨⟨h1, h2⟩, h3⟩, h4⟩, h5⟩, h6⟩ := hi'
   obtain ⟨m, hm⟩ : ∃ m, s.number[x.client.toNat]? = some m := ⟨_, List.getElem?_eq_getElem (by rw [hs.nlen]; omega)⟩
   have h := take_inv s x n hs hn k1 m h1 h2 h3 hm h4 h5 h6
   have e : takeS s x = (⟨s.busy.set x.client.toNat ((s.all.length + 1 : Nat) : Int), s.number.set x.client.toNat (m + 1), s.era, s.read + 1, s.all ++ [⟨x.client, m, s.era, x.op, s.read, -1, zBk, 0⟩]⟩, true) := by
    simp [takeS, k1, hi, hm]
   rw [e]; exact h
 ·by_cases k2 : x.kind = 2
  ·cases hi : ret1 s x with
   | false =>
    have h := take_ret_no s x n hs hn k2 hi
    have e : takeS s x = ({ s with read := s.read + 1 }, false) := by simp [takeS, k2, hi]
    rw [e]; exact h
   | true =>
    have hi' := hi
    simp only [ret1, Bool.and_eq_true, decide_eq_true_eq] at hi'
    obtain ⟨⟨⟨⟨⟨h1, h2⟩, h3⟩, h4⟩, h5⟩, h6⟩ := hi'
    obtain ⟨b, hbg⟩ : ∃ b, s.busy[x.client.toNat]? = some b := ⟨_, List.getElem?_eq_getElem (by rw [hs.blen]; omega)⟩
    have hb := hs.busy b (List.mem_of_getElem? hbg)
    have hb0 : b ≠ 0 := by rw [hbg] at h3; simpa using h3
    obtain ⟨o, hog⟩ : ∃ o, s.all[(b - 1).toNat]? = some o := ⟨_, List.getElem?_eq_getElem (by omega)⟩
    have ho : opOf s x = some o := by rw [opOf, hbg]; exact hog
    rw [ho] at h6
    have h := take_ret_w s x n hs hn k2 b o h1 h2 hbg hb0 hog h4 _ _ _ rfl rfl rfl (by
     rw [kn4_any, h5]
     simp only at h6
     revert h6
     cases decide (x.value = zBk) <;> cases decide (o.op.kind = 1) <;> cases decide (x.err = 0) <;> decide)
    have e : takeS s x = (⟨s.busy.set x.client.toNat 0, s.number, s.era, s.read + 1, s.all.set (b - 1).toNat { o with returned := s.read, value := x.value, err := x.err }⟩, true) := by
     simp [takeS, k2, hi, ho, hbg]
    rw [e]; exact h
  ·by_cases k3 : x.kind = 3
   ·have h := take_crash s x n hs hn k3 _ _ _ _ rfl rfl rfl rfl
    have e : takeS s x = (⟨zero8, s.number, s.era + 1, s.read + 1, s.all⟩, crash1 x) := by simp [takeS, k3]
    rw [e]; exact h
   ·have h := take_other s x n hs hn k1 k2 k3 _ rfl
    have e : takeS s x = ({ s with read := s.read + 1 }, false) := by simp [takeS, k1, k2, k3]
    rw [e]; exact h
abbrev fnT (r : Nat) : AV := .fn (.func 71) (.acons (.ptr r []) .anil) .anil
abbrev fnF (r : Nat) : AV := .fn (.func 133) .anil (.acons (.ptr r []) .anil)
def goS : RdS → List HEv → Nat → RdS × Int
 | s, [], _ => (s, -1)
 | s, x :: l, i => if (takeS s x).2 then goS (takeS s x).1 l (i + 1) else ((takeS s x).1, (i : Int))
theorem first1_is (s : RdS) (x : HEv) (n : Nat) (hs : s.Ok n) (hn : n ≤ 1000000) : FnIs Tryz.prog 133 [.d (encEv x), .ptr 0 []] [(0, .box 136 (fnT 1)), (1, rdRow s 2), (2, opRow s.all)] (.bool (!(takeS s x).2)) [(0, .box 136 (fnT 1)), (1, rdRow (takeS s x).1 64), (64, opRow (takeS s x).1.all)] := by
 refine fnIs_of tab_ok Tryz.func133 rfl rfl rfl ?_;refine sR ?_;refine rN ?_;refine rC ?_;refine nR ?_;iterate 2 refine rQ iM ?_
 refine reg_do rfl (call_b [(0, some 1), (1, some 2)] (take_is s x n hs hn) rfl rfl rfl rfl (arg_ptr rfl rfl (arg_e arg_nil)) ⟨⟨rfl, rfl, _, _, rfl, rfl, .refl _⟩, ⟨rfl, rfl, _, _, rfl, rfl, .refl _⟩, trivial⟩ rfl rfl (.inl rfl) rfl rfl) rfl rfl ?_
 iterate 2 refine rC ?_
 refine nS ?_;refine wc_ret ?_
 exact ⟨trivial, [(64, some _)], .of rfl rfl rfl rfl rfl ⟨⟨_, rfl, AVLe.of_eq rfl⟩, rfl, trivial⟩ ⟨⟨rfl, rfl, _, rfl, .refl _⟩, ⟨rfl, rfl, _, rfl, .refl _⟩, ⟨rfl, rfl, _, rfl, .refl _⟩, trivial⟩⟩
theorem goS_step {s : RdS} {h : List HEv} {i : Nat} {x : HEv} (hx : h[i]? = some x) : goS s (h.drop i) i = if (takeS s x).2 then goS (takeS s x).1 (h.drop (i + 1)) (i + 1) else ((takeS s x).1, (i : Int)) := by
 have hlt := (List.getElem?_eq_some_iff.1 hx).1
 rw [List.drop_eq_getElem_cons hlt, (List.getElem?_eq_some_iff.1 hx).2]
 rfl
theorem ixh_is (h : List HEv) (hL : h.length ≤ 1000000) (s0 : RdS) (hs0 : s0.Ok 0) : FnIs Tryz.prog 132 [.d (encH h), fnF 0] [(0, .box 136 (fnT 1)), (1, rdRow s0 2), (2, opRow s0.all)] (.int .i64 (goS s0 h 0).2) [(0, .box 136 (fnT 1)), (1, rdRow (goS s0 h 0).1 64), (64, opRow (goS s0 h 0).1.all)] := by
 refine fnIs_of tab_ok Tryz.func132 rfl rfl rfl ?_;refine sR ?_;refine rC ?_;refine nQ ?_;refine sR ?_;refine rC ?_;refine rQ iE ?_;refine rC ?_;refine nS ?_;refine wc_block ?_
 refine wc_inv (fun q : RdS × Nat => ⟨[(8, .int .i64 q.2), (7, .int .i64 h.length), (1, fnF 0), (0, .d (encH h))], [(0, some (.box 136 (fnT 1))), (1, some (rdRow q.1 65)), (65, some (opRow q.1.all))], 72, Tryz.f132.ntmps, 64⟩) (fun q => q.2 ≤ h.length ∧ q.1.Ok q.2 ∧ goS q.1 (h.drop q.2) q.2 = goS s0 h 0) (fun q => h.length - q.2) (s0, 0) [(65, some 2)] ⟨Nat.zero_le _, hs0, rfl⟩
  (.of rfl rfl rfl rfl rfl ⟨⟨_, rfl, .refl _⟩, rfl, ⟨_, rfl, .refl _⟩, rfl, ⟨_, rfl, .refl _⟩, rfl, ⟨_, rfl, .refl _⟩, rfl, trivial⟩ ⟨⟨rfl, rfl, _, rfl, .refl _⟩, ⟨rfl, rfl, _, rfl, .refl _⟩, ⟨rfl, rfl, _, rfl, .refl _⟩, trivial⟩) ?_
 rintro ⟨s, i⟩ ⟨hi, hs, hgo⟩
 refine wc_of ?_;refine sR ?_;refine rC ?_;refine nQ ?_
 refine wc_cond rfl (fun h2 => ?_) (fun h2 => ?_)
 ·have hlt : i < h.length := by have := of_decide_eq_true h2; omega
  obtain ⟨x, hx⟩ : ∃ u, h[i]? = some u := ⟨_, List.getElem?_eq_getElem hlt⟩
  have hx' : h[((i : Int)).toNat]? = some x := by rw [Int.toNat_natCast]; exact hx
  have hfst := first1_is s x i hs (by omega)
  have hst := goS_step (s := s) hx
  rw [hgo] at hst
  cases hb : (takeS s x).2 with
  | false =>
   rw [hb] at hst hfst
   rw [hst]
   refine kS ?_;refine wc_seq ?_;refine wc_block ?_;refine sR ?_;iterate 2 refine rC ?_
   refine nR ?_;iterate 3 refine rC ?_
   refine rQ (index_arr tab_ok rfl rfl rfl rfl rfl (by omega) hx') ?_;refine rQ iL ?_;refine reg_do rfl (call_h [(0, some 0), (1, some 1), (2, some 65)] hfst rfl rfl rfl (arg_e (arg_ptr rfl rfl arg_nil)) ⟨⟨rfl, rfl, _, _, rfl, rfl, .refl _⟩, ⟨rfl, rfl, _, _, rfl, rfl, .refl _⟩, ⟨rfl, rfl, _, _, rfl, rfl, .refl _⟩, trivial⟩ rfl rfl (.inl rfl) rfl rfl) rfl rfl ?_
   refine nS ?_;refine wV ?_;refine sR ?_;iterate 2 refine rC ?_
   refine nS ?_;refine wc_ret ?_;refine blk_r ?_;refine seq_r ?_;refine loop_r ?_;refine blk_r ?_;refine seq_r ?_
   exact ⟨trivial, [(64, some _)], .of rfl rfl rfl rfl rfl ⟨⟨_, rfl, AVLe.of_eq rfl⟩, rfl, trivial⟩ ⟨⟨rfl, rfl, _, rfl, .refl _⟩, ⟨rfl, rfl, _, rfl, .refl _⟩, ⟨rfl, rfl, _, rfl, .refl _⟩, trivial⟩⟩
  | true =>
   rw [hb] at hst hfst
   refine kS ?_;refine wc_seq ?_;refine wc_block ?_;refine sR ?_;iterate 2 refine rC ?_
   refine nR ?_;iterate 3 refine rC ?_
   refine rQ (index_arr tab_ok rfl rfl rfl rfl rfl (by omega) hx') ?_;refine rQ iL ?_;refine reg_do rfl (call_h [(0, some 0), (1, some 1), (2, some 65)] hfst rfl rfl rfl (arg_e (arg_ptr rfl rfl arg_nil)) ⟨⟨rfl, rfl, _, _, rfl, rfl, .refl _⟩, ⟨rfl, rfl, _, _, rfl, rfl, .refl _⟩, ⟨rfl, rfl, _, _, rfl, rfl, .refl _⟩, trivial⟩ rfl rfl (.inl rfl) rfl rfl) rfl rfl ?_
   refine nS ?_;refine wG ?_;refine wc_skip ?_;refine blk_n ?_;refine seq_n ?_;refine wc_region ?_;refine rQ iD ?_;refine rC ?_;refine reg_nil ?_
   exact loop_n ((takeS s x).1, i + 1) [(65, some _)] ⟨hlt, hs.next x, hst.symm⟩ (by show h.length - (i + 1) < h.length - i; omega) (.of rfl rfl rfl rfl rfl ⟨⟨_, rfl, .refl _⟩, rfl, ⟨_, rfl, .refl _⟩, rfl, ⟨_, rfl, .refl _⟩, rfl, ⟨_, rfl, .refl _⟩, rfl, trivial⟩ ⟨⟨rfl, rfl, _, rfl, .refl _⟩, ⟨rfl, rfl, _, rfl, .refl _⟩, ⟨rfl, rfl, _, rfl, .refl _⟩, trivial⟩)
 ·have he : i = h.length := by have := of_decide_eq_false h2; omega
  subst he
  rw [List.drop_length] at hgo
  rw [← hgo]
  refine wc_exit ?_;refine seq_x ?_;refine loop_x ?_;refine blk_x ?_;refine seq_n ?_;refine sR ?_;refine rC ?_;refine nS ?_;refine wc_ret ?_
  exact ⟨trivial, [(64, some _)], .of rfl rfl rfl rfl rfl ⟨⟨_, rfl, AVLe.of_eq rfl⟩, rfl, trivial⟩ ⟨⟨rfl, rfl, _, rfl, .refl _⟩, ⟨rfl, rfl, _, rfl, .refl _⟩, ⟨rfl, rfl, _, rfl, .refl _⟩, trivial⟩⟩
theorem first_is (h : List HEv) (hL : h.length ≤ 1000000) (s0 : RdS) (hs0 : s0.Ok 0) : FnIs Tryz.prog 105 [.d (encH h), fnT 0] [(0, rdRow s0 1), (1, opRow s0.all)] (.int .i64 (goS s0 h 0).2) [(0, rdRow (goS s0 h 0).1 64), (64, opRow (goS s0 h 0).1.all)] := by
 refine fnIs_of tab_ok Tryz.func105 rfl rfl rfl ?_;refine sR ?_;refine rN ?_;refine rC ?_;refine nR ?_;iterate 2 refine rC ?_
 refine reg_do rfl (call_h [(0, some 64), (1, some 0), (2, some 1)] (ixh_is h hL s0 hs0) rfl rfl rfl (arg_e (arg_fn1 rfl rfl arg_nil)) ⟨⟨rfl, rfl, _, _, rfl, rfl, .refl _⟩, ⟨rfl, rfl, _, _, rfl, rfl, .refl _⟩, ⟨rfl, rfl, _, _, rfl, rfl, .refl _⟩, trivial⟩ rfl rfl (.inl rfl) rfl rfl) rfl rfl ?_
 refine rC ?_;refine nS ?_;refine wc_ret ?_
 exact ⟨trivial, [(64, some _)], .of rfl rfl rfl rfl rfl ⟨⟨_, rfl, AVLe.of_eq rfl⟩, rfl, trivial⟩ ⟨⟨rfl, rfl, _, rfl, .refl _⟩, ⟨rfl, rfl, _, rfl, .refl _⟩, trivial⟩⟩
abbrev ch8 : D := .cons (.sc (.int .i64 0)) (.cons (.sc (.int .i64 0)) (.cons (.sc (.int .i64 0)) (.cons (.sc (.int .i64 0)) (.cons (.sc (.int .i64 0)) (.cons (.sc (.int .i64 0)) (.cons (.sc (.int .i64 0)) (.cons (.sc (.int .i64 0)) .nil)))))))
theorem ch8_le : DLe ch8 (.vec 8 1 i6 zero8) := by
 rintro w X cs ⟨a1, r1, rfl, ⟨rfl, o1⟩, a2, r2, rfl, ⟨rfl, _⟩, a3, r3, rfl, ⟨rfl, _⟩, a4, r4, rfl, ⟨rfl, _⟩, a5, r5, rfl, ⟨rfl, _⟩, a6, r6, rfl, ⟨rfl, _⟩, a7, r7, rfl, ⟨rfl, _⟩, a8, r8, rfl, ⟨rfl, _⟩, rfl⟩
 refine ⟨rfl, fun _ => [.int .i64 0], fun i hi => ⟨?_, rfl⟩, rfl⟩
 have hz : ∀ b ∈ zero8, b = 0 := by decide
 rw [hz _ (List.getElem_mem hi)]
 exact ⟨rfl, o1⟩
theorem rd0_le : RowLe (.box 114 (.d (.cons ch8 (.cons ch8 (.cons (.sc (.int .i64 0)) (.cons (.sc (.int .i64 0)) (.cons (.sc (.slice none 0 0)) .nil)))))))
  (.box 114 (.acons (.d (.vec 8 1 i6 zero8)) (.acons (.d (.vec 8 1 i6 zero8)) (.acons (.d (i6 0)) (.acons (.d (i6 0)) (.acons (.d (.sc nil_)) .anil)))))) := by
 rintro σ w X r ⟨hf, b, cs, h1, h2, a1, r1, h3, h4, a2, r2, rfl, h5, a3, r3, rfl, h6, a4, r4, rfl, h7, a5, r5, rfl, h8, rfl⟩
 exact ⟨rfl, b, cs, h1, h2, a1, _, h3, ch8_le _ _ _ h4, a2, _, rfl, ch8_le _ _ _ h5, a3, _, rfl, h6, a4, _, rfl, h7, a5, _, rfl, h8, rfl⟩
def rdH (h : List HEv) : RdS := if 8192 < h.length then rd0 else (goS rd0 h 0).1
def chkH (h : List HEv) : Int × Int := if 8192 < h.length then (0, 3) else if 0 ≤ (goS rd0 h 0).2 then ((goS rd0 h 0).2, 18) else (0, 0)
theorem read_is (h : List HEv) (hh : h.length ≤ 9223372036854775807) : FnIs Tryz.prog 56 [.d (encH h)] [] (.tup (.acons (.ptr 64 []) (.acons (.int .i64 (chkH h).1) (.acons (.int .i64 (chkH h).2) .anil)))) [(64, rdRow (rdH h) 65), (65, opRow (rdH h).all)] := by
 unfold rdH chkH
 obtain ⟨Z, hZ⟩ : ∃ Z, decide ((8192 : Int) < (h.length : Int)) = Z := ⟨_, rfl⟩
 refine fnIs_of tab_ok Tryz.func56 rfl rfl rfl ?_;refine sR ?_;iterate 3 refine rC ?_
 refine nR ?_;refine rQ iS ?_;refine rN ?_;refine rC ?_;refine nS ?_;refine wc_le (env' := [(2, .ptr 64 []), (0, .d (encH h))]) (h' := [(64, some (rdRow rd0 65)), (65, some (opRow []))]) 72 [(64, some 96), (65, none)] (.of rfl rfl rfl rfl rfl ⟨⟨_, rfl, .refl _⟩, rfl, ⟨_, rfl, .refl _⟩, rfl, trivial⟩ ⟨⟨rfl, rfl, _, rfl, rd0_le⟩, ⟨rfl, rfl, rfl⟩, trivial⟩) ?_
 cases Z with
 | true =>
  have h8 : 8192 < h.length := by have := of_decide_eq_true hZ; omega
  rw [if_pos h8, if_pos h8]
  refine qR ?_;refine rC ?_;refine rQ iE ?_;refine rC ?_;refine nS ?_;refine wT ?_;refine sR ?_;iterate 4 refine rC ?_
  refine nS ?_;refine wc_ret ?_;refine seq_r ?_
  exact ⟨trivial, [(64, some _), (65, some _)], .of rfl rfl rfl rfl rfl ⟨⟨_, rfl, AVLe.of_eq rfl⟩, rfl, trivial⟩ ⟨⟨rfl, rfl, _, rfl, .refl _⟩, ⟨rfl, rfl, _, rfl, .refl _⟩, trivial⟩⟩
 | false =>
  have h8 : ¬ 8192 < h.length := by have := of_decide_eq_false hZ; omega
  have hL : h.length ≤ 1000000 := by omega
  rw [if_neg h8, if_neg h8]
  by_cases h0 : 0 ≤ (goS rd0 h 0).2
  ·have d0 : decide (0 ≤ (goS rd0 h 0).2) = true := dT h0
   rw [if_pos h0]
   refine qR ?_;refine rC ?_;refine rQ iE ?_;refine rC ?_;refine nS ?_;refine wF ?_;refine kS ?_;refine qR ?_;iterate 3 refine rC ?_
   refine reg_do rfl (call_h [(0, some 64), (1, some 65)] (first_is h hL rd0 rd0_ok) rfl rfl rfl (arg_e (arg_fnb rfl rfl arg_nil)) ⟨⟨rfl, rfl, _, _, rfl, rfl, .refl _⟩, ⟨rfl, rfl, _, _, rfl, rfl, .refl _⟩, trivial⟩ rfl rfl (.inl rfl) rfl rfl) rfl rfl ?_
   refine rC ?_;refine nR ?_;iterate 2 refine rC ?_
   refine nS ?_;refine wT ?_;refine sR ?_;iterate 5 refine rC ?_
   refine nS ?_;refine wc_ret ?_;refine seq_r ?_
   exact ⟨trivial, [(64, some _), (65, some _)], .of rfl rfl rfl rfl rfl ⟨⟨_, rfl, AVLe.of_eq rfl⟩, rfl, trivial⟩ ⟨⟨rfl, rfl, _, rfl, .refl _⟩, ⟨rfl, rfl, _, rfl, .refl _⟩, trivial⟩⟩
  ·have d0 : decide (0 ≤ (goS rd0 h 0).2) = false := dF h0
   rw [if_neg h0]
   refine qR ?_;refine rC ?_;refine rQ iE ?_;refine rC ?_;refine nS ?_;refine wF ?_;refine kS ?_;refine qR ?_;iterate 3 refine rC ?_
   refine reg_do rfl (call_h [(0, some 64), (1, some 65)] (first_is h hL rd0 rd0_ok) rfl rfl rfl (arg_e (arg_fnb rfl rfl arg_nil)) ⟨⟨rfl, rfl, _, _, rfl, rfl, .refl _⟩, ⟨rfl, rfl, _, _, rfl, rfl, .refl _⟩, trivial⟩ rfl rfl (.inl rfl) rfl rfl) rfl rfl ?_
   refine rC ?_;refine nR ?_;iterate 2 refine rC ?_
   refine nS ?_;refine wF ?_;refine kS ?_;refine sR ?_;iterate 4 refine rC ?_
   refine nS ?_;refine wc_ret ?_
   exact ⟨trivial, [(64, some _), (65, some _)], .of rfl rfl rfl rfl rfl ⟨⟨_, rfl, AVLe.of_eq rfl⟩, rfl, trivial⟩ ⟨⟨rfl, rfl, _, rfl, .refl _⟩, ⟨rfl, rfl, _, rfl, .refl _⟩, trivial⟩⟩
theorem hcheck_is (h : List HEv) (hh : h.length ≤ 9223372036854775807) : FnIs Tryz.prog 20 [.d (encH h)] [] (.tup (.acons (.int .i64 (chkH h).1) (.acons (.int .i64 (chkH h).2) .anil))) [] := by
 refine fnIs_of tab_ok Tryz.func20 rfl rfl rfl ?_;refine sR ?_;iterate 2 refine rC ?_
 refine nR ?_;refine rC ?_;refine reg_new2 (call_h [] (read_is h hh) rfl rfl rfl (arg_e arg_nil) trivial rfl rfl (.inl rfl) rfl rfl) rfl ?_;iterate 6 refine rC ?_
 refine nR ?_;iterate 4 refine rC ?_
 refine nS ?_;refine wc_ret ?_
 exact ⟨trivial, [], lf⟩
def opsH (h : List HEv) : List HOp := if (chkH h).2 = 0 then (rdH h).all else []
theorem hops_is (h : List HEv) (hh : h.length ≤ 9223372036854775807) (hal : (rdH h).all.length ≤ 1048576) : FnIs Tryz.prog 21 [.d (encH h)] [] (.tup (.acons (.d (encOX (opsH h))) (.acons (.int .i64 (chkH h).2) .anil))) [] := by
 unfold opsH
 refine fnIs_of tab_ok Tryz.func21 rfl rfl rfl ?_;refine sR ?_;iterate 2 refine rC ?_
 refine nR ?_;refine rC ?_;refine reg_new2 (call_h [] (read_is h hh) rfl rfl rfl (arg_e arg_nil) trivial rfl rfl (.inl rfl) rfl rfl) rfl ?_;iterate 7 refine rC ?_
 refine nQ ?_;refine sR ?_;iterate 2 refine rC ?_
 refine nS ?_
 by_cases h0 : (chkH h).2 = 0
 ·have d0 : (!decide ((chkH h).2 = 0)) = false := by rw [dT h0]; rfl
  rw [if_pos h0, h0]
  refine wG ?_;refine kS ?_;refine sR ?_;iterate 3 refine rC ?_
  refine rQ iM ?_;refine reg_freeze (env' := [(19, _)]) (h' := []) 89 _ rfl ⟨⟨_, rfl, Frz.own rfl⟩, trivial⟩ trivial ?_;refine rQ (call_r (exo_is (rdH h).all hal) rfl rfl (arg_e arg_nil) (.inl rfl) (fun _ => rfl)) ?_
  iterate 2 refine rC ?_
  refine nS ?_;refine wc_ret ?_
  exact ⟨trivial, [], lf⟩
 ·have d0 : (!decide ((chkH h).2 = 0)) = true := by rw [dF h0]; rfl
  rw [if_neg h0]
  refine wT ?_;refine sR ?_;iterate 3 refine rC ?_
  refine nS ?_;refine wc_ret ?_;refine seq_r ?_
  exact ⟨trivial, [], .of rfl rfl rfl rfl rfl ⟨⟨_, rfl, AVLe.tup1 (nil_arx _ _) rfl⟩, rfl, trivial⟩ trivial⟩
def erasG : List HEv → List (List HEv) → List HEv → List (List HEv)
 | [], out, era => out ++ [era]
 | x :: l, out, era => if x.kind = 3 then erasG l (out ++ [era]) [] else erasG l out (era ++ [x])
theorem erasG_step {h : List HEv} {i : Nat} {x : HEv} (hx : h[i]? = some x) (out : List (List HEv)) (era : List HEv) : erasG (h.drop i) out era = if x.kind = 3 then erasG (h.drop (i + 1)) (out ++ [era]) [] else erasG (h.drop (i + 1)) out (era ++ [x]) := by
 have hlt := (List.getElem?_eq_some_iff.1 hx).1
 rw [List.drop_eq_getElem_cons hlt, (List.getElem?_eq_some_iff.1 hx).2]
 rfl
theorem heras_is (h : List HEv) (hh : h.length ≤ 1000000) (hd : ∀ x ∈ h, x.op.data.length ≤ 1048576) : FnIs Tryz.prog 22 [.d (encH h)] [] (.tup (.acons (.d (.arx 1 encHX (if (chkH h).2 = 0 then erasG h [] [] else []))) (.acons (.int .i64 (chkH h).2) .anil))) [] := by
 have hh : h.length ≤ 9223372036854775807 := by omega
 refine fnIs_of tab_ok Tryz.func22 rfl rfl rfl ?_;refine sR ?_;iterate 2 refine rC ?_
 refine nQ ?_;refine sR ?_;refine rC ?_;refine rQ (call_r (hcheck_is h hh) rfl rfl (arg_e arg_nil) (.inl rfl) (fun _ => rfl)) ?_;iterate 5 refine rC ?_
 refine nR ?_;iterate 2 refine rC ?_
 refine nS ?_
 by_cases h0 : (chkH h).2 = 0
 ·have d0 : (!decide ((chkH h).2 = 0)) = false := by rw [dT h0]; rfl
  rw [if_pos h0, h0]
  refine wG ?_;refine kS ?_;refine sR ?_;refine rC ?_;refine nR ?_;refine rC ?_;refine nQ ?_;refine sR ?_;refine rC ?_;refine rQ iE ?_;refine rC ?_;refine nS ?_;refine wc_block ?_
  refine wc_inv (fun q : Nat × List (List HEv) × List HEv => ⟨[(20, .int .i64 q.1), (19, .int .i64 h.length), (18, .d (encH h)), (7, .own 66 0 q.2.2.length 38 none), (6, .own 65 0 q.2.1.length 1 none)], [(65, some (.ds 22 1 false encHX q.2.1)), (66, some (.ds 59 38 false encEv q.2.2))], 72, Tryz.f22.ntmps, 64⟩) (fun q => q.1 ≤ h.length ∧ q.2.1.length ≤ q.1 ∧ q.2.2.length ≤ q.1 ∧ erasG (h.drop q.1) q.2.1 q.2.2 = erasG h [] []) (fun q => h.length - q.1) (0, [], []) [(65, none), (66, none)] ⟨Nat.zero_le _, Nat.le_refl _, Nat.le_refl _, rfl⟩
   (.of rfl rfl rfl rfl rfl ⟨⟨_, rfl, .refl _⟩, rfl, ⟨_, rfl, .refl _⟩, rfl, ⟨_, rfl, .refl _⟩, rfl, ⟨_, rfl, .refl _⟩, rfl, ⟨_, rfl, .refl _⟩, rfl, trivial⟩ ⟨⟨rfl, rfl, rfl⟩, ⟨rfl, rfl, rfl⟩, trivial⟩) ?_
  rintro ⟨i, out, era⟩ ⟨hi, ho, he, hgo⟩
  simp only at hi ho he hgo
  have hera : era.length ≤ 1048576 := by omega
  have hera1 : era.length + 1 ≤ 1048576 := by omega
  have hout : out.length + 1 ≤ 1048576 := by omega
  have hout2 : (out ++ [era]).length ≤ 1048576 := by simp; omega
  refine wc_of ?_;refine sR ?_;refine rC ?_;refine nQ ?_
  refine wc_cond rfl (fun h2 => ?_) (fun h2 => ?_)
  ·have hlt : i < h.length := by have := of_decide_eq_true h2; omega
   obtain ⟨x, hx⟩ : ∃ u, h[i]? = some u := ⟨_, List.getElem?_eq_getElem hlt⟩
   have hx' : h[((i : Int)).toNat]? = some x := by rw [Int.toNat_natCast]; exact hx
   have hdx := hd x (List.mem_of_getElem? hx)
   have hst := erasG_step hx out era
   rw [hgo] at hst
   refine kS ?_;refine wc_seq ?_;refine wc_block ?_;refine sR ?_;refine rQ (index_arr tab_ok rfl rfl rfl rfl rfl (by omega) hx') ?_;refine rQ iL ?_;refine rN ?_;refine rW ?_
   refine nQ ?_;refine sR ?_;refine rC ?_;refine rQ iB ?_;refine rC ?_;refine nS ?_
   by_cases k3 : x.kind = 3
   ·have d3 : decide (x.kind = 3) = true := dT k3
    rw [if_pos k3] at hst
    refine wT ?_;refine sR ?_;iterate 2 refine rC ?_
    refine reg_freeze (env' := [(28, _), (27, _), (20, _), (19, _), (18, _), (6, _)]) (h' := [(65, some _)]) 66 _ rfl ⟨⟨_, rfl, Frz.own rfl⟩, ⟨_, rfl, .refl _⟩, ⟨_, rfl, .refl _⟩, ⟨_, rfl, .refl _⟩, ⟨_, rfl, .refl _⟩, ⟨_, rfl, .refl _⟩, trivial⟩ ⟨⟨rfl, _, rfl, .refl _⟩, trivial⟩ ?_
    refine rQ (call_r (exe_is era hera) rfl rfl (arg_e arg_nil) (.inl rfl) (fun _ => rfl)) ?_;refine reg_new (build_slice (s := 1) tab_ok rfl rfl rfl rfl rfl rfl rfl rfl) rfl ?_
    refine reg_new2 (append_one (enc := encHX) (s := 1) (xs := out) tab_ok era rfl rfl rfl rfl rfl rfl rfl rfl rfl hout rfl) rfl ?_;refine rC ?_;refine nR ?_;refine rC ?_
    refine nS ?_;refine wc_exit ?_;refine seq_x ?_;refine blk_x ?_;refine seq_n ?_;refine wc_region ?_;refine rQ iD ?_;refine rC ?_;refine reg_nil ?_
    have hl1 : out.length + 1 = (out ++ [era]).length := by simp
    exact loop_n (i + 1, out ++ [era], []) [(65, some _), (66, none)] ⟨hlt, by simp; omega, Nat.zero_le _, hst.symm⟩ (by show h.length - (i + 1) < h.length - i; omega) (.of rfl rfl rfl rfl rfl ⟨⟨_, rfl, .refl _⟩, rfl, ⟨_, rfl, .refl _⟩, rfl, ⟨_, rfl, .refl _⟩, rfl, ⟨_, rfl, .refl _⟩, rfl, ⟨_, rfl, AVLe.of_eq (congrArg (fun n => AV.own _ 0 n 1 none) hl1)⟩, rfl, trivial⟩ ⟨⟨rfl, rfl, _, rfl, .refl _⟩, ⟨rfl, rfl, rfl⟩, trivial⟩)
   ·have d3 : decide (x.kind = 3) = false := dF k3
    rw [if_neg k3] at hst
    refine wF ?_;refine kS ?_;refine wc_region ?_;refine rC ?_;refine rQ iM ?_;refine rQ (call_r (own_is x hdx) rfl rfl (arg_e arg_nil) (.inl rfl) (fun _ => rfl)) ?_
    refine reg_new (build_slice (s := 38) tab_ok rfl rfl rfl rfl rfl rfl rfl rfl) rfl ?_;refine reg_new2 (append_one (enc := encEv) (s := 38) (xs := era) tab_ok x rfl rfl rfl rfl rfl rfl rfl rfl rfl hera1 rfl) rfl ?_
    refine rC ?_;refine reg_nil ?_;refine blk_n ?_;refine seq_n ?_;refine wc_region ?_;refine rQ iD ?_;refine rC ?_;refine reg_nil ?_
    have hl2 : era.length + 1 = (era ++ [x]).length := by simp
    exact loop_n (i + 1, out, era ++ [x]) [(65, some 65), (66, some _)] ⟨hlt, by simp only; omega, by simp; omega, hst.symm⟩ (by show h.length - (i + 1) < h.length - i; omega) (.of rfl rfl rfl rfl rfl ⟨⟨_, rfl, .refl _⟩, rfl, ⟨_, rfl, .refl _⟩, rfl, ⟨_, rfl, .refl _⟩, rfl, ⟨_, rfl, AVLe.of_eq (congrArg (fun n => AV.own _ 0 n 38 none) hl2)⟩, rfl, ⟨_, rfl, .refl _⟩, rfl, trivial⟩ ⟨⟨rfl, rfl, _, rfl, .refl _⟩, ⟨rfl, rfl, _, rfl, .refl _⟩, trivial⟩)
  ·have hi2 : i = h.length := by have := of_decide_eq_false h2; omega
   subst hi2
   rw [List.drop_length] at hgo
   rw [← hgo]
   refine wc_exit ?_;refine seq_x ?_;refine loop_x ?_;refine blk_x ?_;refine seq_n ?_;refine sR ?_;iterate 2 refine rC ?_
   refine reg_freeze (env' := [(39, _), (38, _)]) (h' := [(65, some _)]) 66 _ rfl ⟨⟨_, rfl, Frz.own rfl⟩, ⟨_, rfl, .refl _⟩, trivial⟩ ⟨⟨rfl, _, rfl, .refl _⟩, trivial⟩ ?_
   refine rQ (call_r (exe_is era hera) rfl rfl (arg_e arg_nil) (.inl rfl) (fun _ => rfl)) ?_;refine reg_new (build_slice (s := 1) tab_ok rfl rfl rfl rfl rfl rfl rfl rfl) rfl ?_
   refine reg_new2 (append_one (enc := encHX) (s := 1) (xs := out) tab_ok era rfl rfl rfl rfl rfl rfl rfl rfl rfl hout rfl) rfl ?_;refine reg_freeze (env' := [(42, _)]) (h' := []) 112 _ rfl ⟨⟨_, rfl, Frz.own (by simp)⟩, trivial⟩ trivial ?_
   refine rQ (call_r (exh_is (out ++ [era]) hout2) rfl rfl (arg_e arg_nil) (.inl rfl) (fun _ => rfl)) ?_;iterate 2 refine rC ?_
   refine nS ?_;refine wc_ret ?_
   exact ⟨trivial, [], lf⟩
 ·have d0 : (!decide ((chkH h).2 = 0)) = true := by rw [dF h0]; rfl
  rw [if_neg h0]
  refine wT ?_;refine sR ?_;iterate 3 refine rC ?_
  refine nS ?_;refine wc_ret ?_;refine seq_r ?_
  exact ⟨trivial, [], .of rfl rfl rfl rfl rfl ⟨⟨_, rfl, AVLe.tup1 (nil_arx _ _) rfl⟩, rfl, trivial⟩ trivial⟩
def projB (c : Int) (x : HEv) : Bool := decide (x.kind = 3) || decide (x.client = c)
def projE (c : Int) (h : List HEv) : Int := if (chkH h).2 = 0 then (if c < 0 ∨ 8 ≤ c then 1 else 0) else (chkH h).2
theorem hproj_is (h : List HEv) (c : Int) (hh : h.length ≤ 1000000) (hd : ∀ x ∈ h, x.op.data.length ≤ 1048576) : FnIs Tryz.prog 23 [.d (encH h), .int .i64 c] [] (.tup (.acons (.d (encHX (if projE c h = 0 then h.filter (projB c) else []))) (.acons (.int .i64 (projE c h)) .anil))) [] := by
 have hh : h.length ≤ 9223372036854775807 := by omega
 refine fnIs_of tab_ok Tryz.func23 rfl rfl rfl ?_;refine sR ?_;iterate 2 refine rC ?_
 refine nQ ?_;refine sR ?_;refine rC ?_;refine rQ (call_r (hcheck_is h hh) rfl rfl (arg_e arg_nil) (.inl rfl) (fun _ => rfl)) ?_;iterate 5 refine rC ?_
 refine nR ?_;iterate 2 refine rC ?_
 refine nS ?_
 by_cases h0 : (chkH h).2 = 0
 ·have d0 : (!decide ((chkH h).2 = 0)) = false := by rw [dT h0]; rfl
  refine wF ?_;refine kS ?_;refine qR ?_;iterate 3 refine rC ?_
  by_cases hc0 : c < 0
  ·have c0 : decide (c < 0) = true := dT hc0
   rw [show projE c h = 1 by rw [projE, if_pos h0, if_pos (.inl hc0)], if_neg (by decide)]
   iterate 2 refine rS ?_
   refine rQ iT ?_;refine nS ?_;refine wV ?_;refine sR ?_;iterate 2 refine rC ?_
   refine nS ?_;refine wc_ret ?_;refine seq_r ?_
   exact ⟨trivial, [], .of rfl rfl rfl rfl rfl ⟨⟨_, rfl, AVLe.tup1 (nil_arx _ _) rfl⟩, rfl, trivial⟩ trivial⟩
  ·have c0 : decide (c < 0) = false := dF hc0
   refine rO ?_;refine rC ?_;refine rO ?_;refine rC ?_;refine rQ iF ?_;refine nS ?_
   by_cases hc8 : 8 ≤ c
   ·have c8 : decide (8 ≤ c) = true := dT hc8
    rw [show projE c h = 1 by rw [projE, if_pos h0, if_pos (.inr hc8)], if_neg (by decide)]
    refine wT ?_;refine sR ?_;iterate 2 refine rC ?_
    refine nS ?_;refine wc_ret ?_;refine seq_r ?_
    exact ⟨trivial, [], .of rfl rfl rfl rfl rfl ⟨⟨_, rfl, AVLe.tup1 (nil_arx _ _) rfl⟩, rfl, trivial⟩ trivial⟩
   ·have c8 : decide (8 ≤ c) = false := dF hc8
    rw [show projE c h = 0 by rw [projE, if_pos h0, if_neg (by omega)], if_pos rfl]
    refine wF ?_;refine kS ?_;refine sR ?_;refine rC ?_;refine nQ ?_;refine sR ?_;refine rC ?_;refine rQ iE ?_;refine rC ?_;refine nS ?_;refine wc_block ?_
    refine wc_inv (fun i : Nat => ⟨[(27, .int .i64 i), (26, .int .i64 h.length), (25, .d (encH h)), (8, .own 65 0 ((h.take i).filter (projB c)).length 38 none), (1, .int .i64 c)], [(65, some (.ds 59 38 false encEv ((h.take i).filter (projB c))))], 72, Tryz.f23.ntmps, 64⟩) (fun i => i ≤ h.length) (fun i => h.length - i) 0 [(65, none)] (Nat.zero_le _)
     (.of rfl rfl rfl rfl rfl ⟨⟨_, rfl, .refl _⟩, rfl, ⟨_, rfl, .refl _⟩, rfl, ⟨_, rfl, .refl _⟩, rfl, ⟨_, rfl, .refl _⟩, rfl, ⟨_, rfl, .refl _⟩, rfl, trivial⟩ ⟨⟨rfl, rfl, rfl⟩, trivial⟩) ?_
    intro i hi
    have hlen : ((h.take i).filter (projB c)).length ≤ i := Nat.le_trans (List.length_filter_le _ _) (by rw [List.length_take]; omega)
    have hera1 : ((h.take i).filter (projB c)).length + 1 ≤ 1048576 := by omega
    refine wc_of ?_;refine sR ?_;refine rC ?_;refine nQ ?_
    refine wc_cond rfl (fun h2 => ?_) (fun h2 => ?_)
    ·have hlt : i < h.length := by have := of_decide_eq_true h2; omega
     obtain ⟨x, hx⟩ : ∃ u, h[i]? = some u := ⟨_, List.getElem?_eq_getElem hlt⟩
     have hx' : h[((i : Int)).toNat]? = some x := by rw [Int.toNat_natCast]; exact hx
     have hdx := hd x (List.mem_of_getElem? hx)
     have htk : h.take (i + 1) = h.take i ++ [x] := by rw [List.take_add_one, hx]; rfl
     obtain ⟨c1, h1⟩ : ∃ b, decide (x.kind = 3) = b := ⟨_, rfl⟩
     obtain ⟨c2, h2⟩ : ∃ b, decide (x.client = c) = b := ⟨_, rfl⟩
     refine kS ?_;refine wc_seq ?_;refine wc_block ?_;refine sR ?_;refine rQ (index_arr tab_ok rfl rfl rfl rfl rfl (by omega) hx') ?_;refine rQ iL ?_;refine rN ?_;refine rW ?_
     refine nR ?_;refine rC ?_;refine rQ iB ?_;iterate 2 refine rC ?_
     cases c1 with
     | true =>
      have hf : (h.take (i + 1)).filter (projB c) = (h.take i).filter (projB c) ++ [x] := by rw [htk, List.filter_append]; simp [projB, h1]
      have hl1 : ((h.take i).filter (projB c)).length + 1 = ((h.take (i + 1)).filter (projB c)).length := by rw [hf]; simp
      iterate 4 refine rS ?_
      refine rQ iT ?_;refine nS ?_;refine wV ?_;refine wc_region ?_;refine rC ?_;refine rQ iM ?_;refine rQ (call_r (own_is x hdx) rfl rfl (arg_e arg_nil) (.inl rfl) (fun _ => rfl)) ?_
      refine reg_new (build_slice (s := 38) tab_ok rfl rfl rfl rfl rfl rfl rfl rfl) rfl ?_;refine reg_new2 (append_one (enc := encEv) (s := 38) (xs := (h.take i).filter (projB c)) tab_ok x rfl rfl rfl rfl rfl rfl rfl rfl rfl hera1 rfl) rfl ?_
      refine rC ?_;refine reg_nil ?_;refine blk_n ?_;refine seq_n ?_;refine wc_region ?_;refine rQ iD ?_;refine rC ?_;refine reg_nil ?_
      exact loop_n (i + 1) [(65, some _)] hlt (by omega) (.of rfl rfl rfl rfl rfl ⟨⟨_, rfl, .refl _⟩, rfl, ⟨_, rfl, .refl _⟩, rfl, ⟨_, rfl, .refl _⟩, rfl, ⟨_, rfl, AVLe.of_eq (congrArg (fun n => AV.own _ 0 n 38 none) hl1)⟩, rfl, ⟨_, rfl, .refl _⟩, rfl, trivial⟩ ⟨⟨rfl, rfl, _, rfl, RowLe.of_eq (congrArg (fun l => Row.ds 59 38 false encEv l) hf.symm)⟩, trivial⟩)
     | false =>
      refine rO ?_;refine rC ?_;refine rO ?_;refine rQ iB ?_;refine rO ?_;refine rC ?_;refine rO ?_;refine rC ?_;refine rQ iF ?_;refine nS ?_
      cases c2 with
      | true =>
       have hf : (h.take (i + 1)).filter (projB c) = (h.take i).filter (projB c) ++ [x] := by rw [htk, List.filter_append]; simp [projB, h1, h2]
       have hl1 : ((h.take i).filter (projB c)).length + 1 = ((h.take (i + 1)).filter (projB c)).length := by rw [hf]; simp
       refine wT ?_;refine wc_region ?_;refine rC ?_;refine rQ iM ?_;refine rQ (call_r (own_is x hdx) rfl rfl (arg_e arg_nil) (.inl rfl) (fun _ => rfl)) ?_;refine reg_new (build_slice (s := 38) tab_ok rfl rfl rfl rfl rfl rfl rfl rfl) rfl ?_
       refine reg_new2 (append_one (enc := encEv) (s := 38) (xs := (h.take i).filter (projB c)) tab_ok x rfl rfl rfl rfl rfl rfl rfl rfl rfl hera1 rfl) rfl ?_;refine rC ?_
       refine reg_nil ?_;refine blk_n ?_;refine seq_n ?_;refine wc_region ?_;refine rQ iD ?_;refine rC ?_;refine reg_nil ?_
       exact loop_n (i + 1) [(65, some _)] hlt (by omega) (.of rfl rfl rfl rfl rfl ⟨⟨_, rfl, .refl _⟩, rfl, ⟨_, rfl, .refl _⟩, rfl, ⟨_, rfl, .refl _⟩, rfl, ⟨_, rfl, AVLe.of_eq (congrArg (fun n => AV.own _ 0 n 38 none) hl1)⟩, rfl, ⟨_, rfl, .refl _⟩, rfl, trivial⟩ ⟨⟨rfl, rfl, _, rfl, RowLe.of_eq (congrArg (fun l => Row.ds 59 38 false encEv l) hf.symm)⟩, trivial⟩)
      | false =>
       have hf : (h.take i).filter (projB c) = (h.take (i + 1)).filter (projB c) := by rw [htk, List.filter_append]; simp [projB, h1, h2]
       refine wF ?_;refine wc_skip ?_;refine blk_n ?_;refine seq_n ?_;refine wc_region ?_;refine rQ iD ?_;refine rC ?_;refine reg_nil ?_
       exact loop_n (i + 1) [(65, some 65)] hlt (by omega) (.of rfl rfl rfl rfl rfl ⟨⟨_, rfl, .refl _⟩, rfl, ⟨_, rfl, .refl _⟩, rfl, ⟨_, rfl, .refl _⟩, rfl, ⟨_, rfl, AVLe.of_eq (congrArg (fun l : List HEv => AV.own 65 0 l.length 38 none) hf)⟩, rfl, ⟨_, rfl, .refl _⟩, rfl, trivial⟩ ⟨⟨rfl, rfl, _, rfl, RowLe.of_eq (congrArg (fun l => Row.ds 59 38 false encEv l) hf)⟩, trivial⟩)
    ·have hi2 : i = h.length := by have := of_decide_eq_false h2; omega
     subst hi2
     rw [List.take_length]
     have hera : (h.filter (projB c)).length ≤ 1048576 := Nat.le_trans (List.length_filter_le _ _) (by omega)
     refine wc_exit ?_;refine seq_x ?_;refine loop_x ?_;refine blk_x ?_;refine seq_n ?_;refine sR ?_;refine rC ?_;refine reg_freeze (env' := [(46, _)]) (h' := []) 65 _ rfl ⟨⟨_, rfl, Frz.own rfl⟩, trivial⟩ trivial ?_
     refine rQ (call_r (exe_is (h.filter (projB c)) hera) rfl rfl (arg_e arg_nil) (.inl rfl) (fun _ => rfl)) ?_;iterate 2 refine rC ?_
     refine nS ?_;refine wc_ret ?_
     exact ⟨trivial, [], lf⟩
 ·have d0 : (!decide ((chkH h).2 = 0)) = true := by rw [dF h0]; rfl
  have hE : projE c h = (chkH h).2 := by rw [projE, if_neg h0]
  rw [hE, if_neg h0]
  refine wT ?_;refine sR ?_;iterate 3 refine rC ?_
  refine nS ?_;refine wc_ret ?_;refine seq_r ?_
  exact ⟨trivial, [], .of rfl rfl rfl rfl rfl ⟨⟨_, rfl, AVLe.tup1 (nil_arx _ _) rfl⟩, rfl, trivial⟩ trivial⟩
def pstep (c : Int) (i : Nat) (a : Int) (x : HEv) : Int := if x.kind = 3 then -1 else if x.kind = 1 then (if x.client = c then (i : Int) else a) else if x.kind = 2 then (if x.client = c then -1 else a) else a
def pendG (c : Int) : List HEv → Nat → Int → Int
 | [], _, a => a
 | x :: l, i, a => pendG c l (i + 1) (pstep c i a x)
def pend (h : List HEv) (c : Int) : Int := pendG c h 0 (-1)
theorem pendG_snoc (c : Int) (x : HEv) : ∀ (l : List HEv) (i : Nat) (a : Int), pendG c (l ++ [x]) i a = pstep c (i + l.length) (pendG c l i a) x
 | [], i, a => rfl
 | y :: l, i, a => by
  rw [List.cons_append, pendG, pendG, pendG_snoc c x l]
  rw [List.length_cons, show i + 1 + l.length = i + (l.length + 1) by omega]
theorem pend_snoc (l : List HEv) (c : Int) (x : HEv) : pend (l ++ [x]) c = pstep c l.length (pend l c) x := by
 rw [pend, pendG_snoc, Nat.zero_add]; rfl
theorem pend_take {h : List HEv} {c : Int} {i : Nat} {x : HEv} (hx : h[i]? = some x) : pend (h.take (i + 1)) c = pstep c i (pend (h.take i) c) x := by
 have hlt := (List.getElem?_eq_some_iff.1 hx).1
 rw [List.take_add_one, hx, Option.toList_some, pend_snoc, List.length_take, Nat.min_eq_left (by omega)]
theorem pstep_or (c : Int) (i : Nat) (a : Int) (x : HEv) : pstep c i a x = -1 ∨ pstep c i a x = i ∨ pstep c i a x = a := by
 unfold pstep
 by_cases h1 : x.kind = 3
 ·simp [h1]
 ·by_cases h2 : x.kind = 1
  ·by_cases h3 : x.client = c <;> simp [h2, h3]
  ·by_cases h4 : x.kind = 2
   ·by_cases h3 : x.client = c <;> simp [h4, h3]
   ·simp [h1, h2, h4]
theorem pend_lt (c : Int) : ∀ (l : List HEv) (i : Nat) (a : Int), -1 ≤ a ∧ a < i → -1 ≤ pendG c l i a ∧ pendG c l i a < (i + l.length : Nat)
 | [], i, a, h => by simpa [pendG] using h
 | x :: l, i, a, h => by
  have hs := pstep_or c i a x
  have := pend_lt c l (i + 1) (pstep c i a x) (by omega)
  rw [pendG, List.length_cons]
  omega
theorem pend_in (h : List HEv) (c : Int) : -1 ≤ pend h c ∧ pend h c < h.length := by
 have := pend_lt c h 0 (-1) (by decide)
 rw [Nat.zero_add] at this
 exact this
theorem pend_is (h : List HEv) (c : Int) (hL : h.length ≤ 9223372036854775807) : FnIs Tryz.prog 64 [.d (encH h), .int .i64 c] [] (.int .i64 (pend h c)) [] := by
 refine fnIs_of tab_ok Tryz.func64 rfl rfl rfl ?_;refine sR ?_;refine rC ?_;refine nR ?_;refine rC ?_;refine nQ ?_;refine sR ?_;refine rC ?_;refine nS ?_;refine wc_block ?_
 refine wc_inv (fun i : Nat => ⟨[(6, .int .i64 i), (5, .int .i64 (pend (h.take i) c)), (1, .int .i64 c), (0, .d (encH h))], [], 72, Tryz.f64.ntmps, 64⟩) (fun i => i ≤ h.length) (fun i => h.length - i) 0 [] (Nat.zero_le _)
  (.of rfl rfl rfl rfl rfl ⟨⟨_, rfl, .refl _⟩, rfl, ⟨_, rfl, .refl _⟩, rfl, ⟨_, rfl, .refl _⟩, rfl, ⟨_, rfl, .refl _⟩, rfl, trivial⟩ trivial) ?_
 intro i hi
 refine wc_of ?_;refine qR ?_;iterate 2 refine rC ?_
 refine rQ iE ?_;refine rC ?_;refine nS ?_
 refine wc_cond rfl (fun h3 => ?_) (fun h3 => ?_)
 ·have hlt : i < h.length := by have := of_decide_eq_true h3; omega
  obtain ⟨x, hx⟩ : ∃ x, h[i]? = some x := ⟨_, List.getElem?_eq_getElem hlt⟩
  have hx' : h[((i : Int)).toNat]? = some x := by rw [Int.toNat_natCast]; exact hx
  have hp := pend_take (c := c) hx
  unfold pstep at hp
  by_cases k3 : x.kind = 3
  ·have d3 : decide (x.kind = 3) = true := dT k3
   have d1 : decide (x.kind = 1) = false := dF (by omega)
   have d2 : decide (x.kind = 2) = false := dF (by omega)
   rw [if_pos k3] at hp
   refine kS ?_;refine wc_seq ?_;refine wc_block ?_;refine qR ?_;iterate 2 refine rC ?_
   refine rQ (index_arr tab_ok rfl rfl rfl rfl rfl (by omega) hx') ?_;refine rC ?_;refine rQ iL ?_;refine rC ?_;refine nS ?_;refine wT ?_;refine wc_region ?_;refine rC ?_
   refine nQ ?_;refine sR ?_;iterate 2 refine rC ?_
   refine rQ (index_arr tab_ok rfl rfl rfl rfl rfl (by omega) hx') ?_;refine rC ?_;refine rQ iL ?_;iterate 2 refine rC ?_
   iterate 7 refine rS ?_
   refine rQ iF ?_;refine nS ?_;refine wG ?_;refine kS ?_;refine sR ?_;iterate 2 refine rC ?_
   refine rQ (index_arr tab_ok rfl rfl rfl rfl rfl (by omega) hx') ?_;refine rC ?_;refine rQ iL ?_;iterate 2 refine rC ?_
   iterate 7 refine rS ?_
   refine rQ iF ?_;refine nS ?_;refine wG ?_;refine wc_skip ?_;refine blk_n ?_;refine seq_n ?_;refine wc_region ?_;refine rC ?_;refine rQ iD ?_;refine rC ?_;refine reg_nil ?_
   exact loop_n (i + 1) [] hlt (by omega) (.of rfl rfl rfl rfl rfl ⟨⟨_, rfl, .refl _⟩, rfl, ⟨_, rfl, AVLe.of_eq (congrArg (fun n => AV.int .i64 n) hp.symm)⟩, rfl, ⟨_, rfl, .refl _⟩, rfl, ⟨_, rfl, .refl _⟩, rfl, trivial⟩ trivial)
  ·have d3 : decide (x.kind = 3) = false := dF k3
   rw [if_neg k3] at hp
   by_cases k1 : x.kind = 1
   ·have d1 : decide (x.kind = 1) = true := dT k1
    have d2 : decide (x.kind = 2) = false := dF (by omega)
    rw [if_pos k1] at hp
    by_cases kc : x.client = c
    ·have dc : decide (x.client = c) = true := dT kc
     rw [if_pos kc] at hp
     refine kS ?_;refine wc_seq ?_;refine wc_block ?_;refine qR ?_;iterate 2 refine rC ?_
     refine rQ (index_arr tab_ok rfl rfl rfl rfl rfl (by omega) hx') ?_;refine rC ?_;refine rQ iL ?_;refine rC ?_;refine nS ?_;refine wF ?_;refine kS ?_;refine qR ?_
     iterate 2 refine rC ?_
     refine rQ (index_arr tab_ok rfl rfl rfl rfl rfl (by omega) hx') ?_;refine rC ?_;refine rQ iL ?_;iterate 2 refine rC ?_
     refine rO ?_;refine rC ?_;refine rO ?_;refine rC ?_;refine rO ?_;refine rQ (index_arr tab_ok rfl rfl rfl rfl rfl (by omega) hx') ?_;refine rO ?_;refine rC ?_;refine rO ?_
     refine rQ iL ?_;refine rO ?_;refine rC ?_;refine rO ?_;refine rC ?_;refine rQ iT ?_;refine nS ?_;refine wT ?_;refine wc_region ?_;iterate 2 refine rC ?_
     refine nR ?_;iterate 2 refine rC ?_
     refine rQ (index_arr tab_ok rfl rfl rfl rfl rfl (by omega) hx') ?_;refine rC ?_;refine rQ iL ?_;iterate 2 refine rC ?_
     iterate 7 refine rS ?_
     refine rQ iF ?_;refine nS ?_;refine wG ?_;refine wc_skip ?_;refine blk_n ?_;refine seq_n ?_;refine wc_region ?_;refine rC ?_;refine rQ iD ?_;refine rC ?_;refine reg_nil ?_
     exact loop_n (i + 1) [] hlt (by omega) (.of rfl rfl rfl rfl rfl ⟨⟨_, rfl, .refl _⟩, rfl, ⟨_, rfl, AVLe.of_eq (congrArg (fun n => AV.int .i64 n) hp.symm)⟩, rfl, ⟨_, rfl, .refl _⟩, rfl, ⟨_, rfl, .refl _⟩, rfl, trivial⟩ trivial)
    ·have dc : decide (x.client = c) = false := dF kc
     rw [if_neg kc] at hp
     refine kS ?_;refine wc_seq ?_;refine wc_block ?_;refine qR ?_;iterate 2 refine rC ?_
     refine rQ (index_arr tab_ok rfl rfl rfl rfl rfl (by omega) hx') ?_;refine rC ?_;refine rQ iL ?_;refine rC ?_;refine nS ?_;refine wF ?_;refine kS ?_;refine qR ?_
     iterate 2 refine rC ?_
     refine rQ (index_arr tab_ok rfl rfl rfl rfl rfl (by omega) hx') ?_;refine rC ?_;refine rQ iL ?_;iterate 2 refine rC ?_
     refine rO ?_;refine rC ?_;refine rO ?_;refine rC ?_;refine rO ?_;refine rQ (index_arr tab_ok rfl rfl rfl rfl rfl (by omega) hx') ?_;refine rO ?_;refine rC ?_;refine rO ?_
     refine rQ iL ?_;refine rO ?_;refine rC ?_;refine rO ?_;refine rC ?_;refine rQ iT ?_;refine nS ?_;refine wF ?_;refine kS ?_;refine sR ?_;iterate 2 refine rC ?_
     refine rQ (index_arr tab_ok rfl rfl rfl rfl rfl (by omega) hx') ?_;refine rC ?_;refine rQ iL ?_;iterate 2 refine rC ?_
     iterate 7 refine rS ?_
     refine rQ iF ?_;refine nS ?_;refine wG ?_;refine wc_skip ?_;refine blk_n ?_;refine seq_n ?_;refine wc_region ?_;refine rC ?_;refine rQ iD ?_;refine rC ?_;refine reg_nil ?_
     exact loop_n (i + 1) [] hlt (by omega) (.of rfl rfl rfl rfl rfl ⟨⟨_, rfl, .refl _⟩, rfl, ⟨_, rfl, AVLe.of_eq (congrArg (fun n => AV.int .i64 n) hp.symm)⟩, rfl, ⟨_, rfl, .refl _⟩, rfl, ⟨_, rfl, .refl _⟩, rfl, trivial⟩ trivial)
   ·have d1 : decide (x.kind = 1) = false := dF k1
    rw [if_neg k1] at hp
    by_cases k2 : x.kind = 2
    ·have d2 : decide (x.kind = 2) = true := dT k2
     rw [if_pos k2] at hp
     by_cases kc : x.client = c
     ·have dc : decide (x.client = c) = true := dT kc
      rw [if_pos kc] at hp
      refine kS ?_;refine wc_seq ?_;refine wc_block ?_;refine qR ?_;iterate 2 refine rC ?_
      refine rQ (index_arr tab_ok rfl rfl rfl rfl rfl (by omega) hx') ?_;refine rC ?_;refine rQ iL ?_;refine rC ?_;refine nS ?_;refine wF ?_;refine kS ?_;refine qR ?_
      iterate 2 refine rC ?_
      refine rQ (index_arr tab_ok rfl rfl rfl rfl rfl (by omega) hx') ?_;refine rC ?_;refine rQ iL ?_;iterate 2 refine rC ?_
      iterate 7 refine rS ?_
      refine rQ iF ?_;refine nS ?_;refine wG ?_;refine kS ?_;refine sR ?_;iterate 2 refine rC ?_
      refine rQ (index_arr tab_ok rfl rfl rfl rfl rfl (by omega) hx') ?_;refine rC ?_;refine rQ iL ?_;iterate 2 refine rC ?_
      refine rO ?_;refine rC ?_;refine rO ?_;refine rC ?_;refine rO ?_;refine rQ (index_arr tab_ok rfl rfl rfl rfl rfl (by omega) hx') ?_;refine rO ?_;refine rC ?_;refine rO ?_
      refine rQ iL ?_;refine rO ?_;refine rC ?_;refine rO ?_;refine rC ?_;refine rQ iT ?_;refine nS ?_;refine wT ?_;refine wc_region ?_;refine rC ?_;refine reg_nil ?_
      refine blk_n ?_;refine seq_n ?_;refine wc_region ?_;refine rC ?_;refine rQ iD ?_;refine rC ?_;refine reg_nil ?_
      exact loop_n (i + 1) [] hlt (by omega) (.of rfl rfl rfl rfl rfl ⟨⟨_, rfl, .refl _⟩, rfl, ⟨_, rfl, AVLe.of_eq (congrArg (fun n => AV.int .i64 n) hp.symm)⟩, rfl, ⟨_, rfl, .refl _⟩, rfl, ⟨_, rfl, .refl _⟩, rfl, trivial⟩ trivial)
     ·have dc : decide (x.client = c) = false := dF kc
      rw [if_neg kc] at hp
      refine kS ?_;refine wc_seq ?_;refine wc_block ?_;refine qR ?_;iterate 2 refine rC ?_
      refine rQ (index_arr tab_ok rfl rfl rfl rfl rfl (by omega) hx') ?_;refine rC ?_;refine rQ iL ?_;refine rC ?_;refine nS ?_;refine wF ?_;refine kS ?_;refine qR ?_
      iterate 2 refine rC ?_
      refine rQ (index_arr tab_ok rfl rfl rfl rfl rfl (by omega) hx') ?_;refine rC ?_;refine rQ iL ?_;iterate 2 refine rC ?_
      iterate 7 refine rS ?_
      refine rQ iF ?_;refine nS ?_;refine wG ?_;refine kS ?_;refine sR ?_;iterate 2 refine rC ?_
      refine rQ (index_arr tab_ok rfl rfl rfl rfl rfl (by omega) hx') ?_;refine rC ?_;refine rQ iL ?_;iterate 2 refine rC ?_
      refine rO ?_;refine rC ?_;refine rO ?_;refine rC ?_;refine rO ?_;refine rQ (index_arr tab_ok rfl rfl rfl rfl rfl (by omega) hx') ?_;refine rO ?_;refine rC ?_;refine rO ?_
      refine rQ iL ?_;refine rO ?_;refine rC ?_;refine rO ?_;refine rC ?_;refine rQ iT ?_;refine nS ?_;refine wF ?_;refine wc_skip ?_;refine blk_n ?_;refine seq_n ?_;refine wc_region ?_
      refine rC ?_;refine rQ iD ?_;refine rC ?_;refine reg_nil ?_
      exact loop_n (i + 1) [] hlt (by omega) (.of rfl rfl rfl rfl rfl ⟨⟨_, rfl, .refl _⟩, rfl, ⟨_, rfl, AVLe.of_eq (congrArg (fun n => AV.int .i64 n) hp.symm)⟩, rfl, ⟨_, rfl, .refl _⟩, rfl, ⟨_, rfl, .refl _⟩, rfl, trivial⟩ trivial)
    ·have d2 : decide (x.kind = 2) = false := dF k2
     rw [if_neg k2] at hp
     refine kS ?_;refine wc_seq ?_;refine wc_block ?_;refine qR ?_;iterate 2 refine rC ?_
     refine rQ (index_arr tab_ok rfl rfl rfl rfl rfl (by omega) hx') ?_;refine rC ?_;refine rQ iL ?_;refine rC ?_;refine nS ?_;refine wF ?_;refine kS ?_;refine qR ?_
     iterate 2 refine rC ?_
     refine rQ (index_arr tab_ok rfl rfl rfl rfl rfl (by omega) hx') ?_;refine rC ?_;refine rQ iL ?_;iterate 2 refine rC ?_
     iterate 7 refine rS ?_
     refine rQ iF ?_;refine nS ?_;refine wG ?_;refine kS ?_;refine sR ?_;iterate 2 refine rC ?_
     refine rQ (index_arr tab_ok rfl rfl rfl rfl rfl (by omega) hx') ?_;refine rC ?_;refine rQ iL ?_;iterate 2 refine rC ?_
     iterate 7 refine rS ?_
     refine rQ iF ?_;refine nS ?_;refine wG ?_;refine wc_skip ?_;refine blk_n ?_;refine seq_n ?_;refine wc_region ?_;refine rC ?_;refine rQ iD ?_;refine rC ?_;refine reg_nil ?_
     exact loop_n (i + 1) [] hlt (by omega) (.of rfl rfl rfl rfl rfl ⟨⟨_, rfl, .refl _⟩, rfl, ⟨_, rfl, AVLe.of_eq (congrArg (fun n => AV.int .i64 n) hp.symm)⟩, rfl, ⟨_, rfl, .refl _⟩, rfl, ⟨_, rfl, .refl _⟩, rfl, trivial⟩ trivial)
 ·have he : i = h.length := by have := of_decide_eq_false h3; omega
  subst he
  rw [List.take_length]
  refine wc_exit ?_;refine seq_x ?_;refine loop_x ?_;refine blk_x ?_;refine seq_n ?_;refine sR ?_;iterate 2 refine rC ?_
  refine nS ?_;refine wc_ret ?_
  exact ⟨trivial, [], lf⟩
def fit1 (h : List HEv) (x : HEv) : Bool := decide (0 ≤ x.client) && decide (x.client ≤ 7) && decide (pend h x.client < 0) && decide (x.op.data.length ≤ 64) && decide (x.value = zBk) && decide (x.err = 0)
def fit2 (h : List HEv) (x : HEv) : Bool := decide (0 ≤ x.client) && decide (x.client ≤ 7) && !decide (pend h x.client < 0) && decide (x.op = zOp) && kn4 x.err && ((match h[(pend h x.client).toNat]? with | some y => decide (y.op.kind = 1) && decide (x.err = 0) | none => false) || decide (x.value = zBk))
def fitB (h : List HEv) (x : HEv) : Bool := if x.kind = 1 then fit1 h x else if x.kind = 2 then fit2 h x else if x.kind = 3 then crash1 x else false
abbrev FitIs (h : List HEv) (x : HEv) (b : Bool) : Prop := FnIs Tryz.prog 55 [.d (encH h), .d (encEv x)] [] (.d (i6 (if b then 1 else 0))) []
theorem fit1_w (h : List HEv) (x : HEv) (hL : h.length ≤ 9223372036854775807) (k1 : x.kind = 1) (c1 c2 c3 c4 c5 c6 : Bool) (h1 : decide (0 ≤ x.client) = c1) (h2 : decide (x.client ≤ 7) = c2) (h3 : decide (pend h x.client < 0) = c3) (h4 : decide (((byI x.op.data).length : Int) ≤ 64) = c4) (h5 : decide (x.value = zBk) = c5) (h6 : decide (x.err = 0) = c6) : FitIs h x (c1 && c2 && c3 && c4 && c5 && c6) := by
 have d1 : decide (x.kind = 1) = true := dT k1
 have d2 : decide (x.kind = 2) = false := dF (by omega)
 have d3 : decide (x.kind = 3) = false := dF (by omega)
 have hpd := pend_is h x.client hL
 refine fnIs_of tab_ok Tryz.func55 rfl rfl rfl ?_;refine sR ?_;refine rN ?_;refine rC ?_;refine nR ?_;refine rQ (build_array tab_ok rfl rfl rfl) ?_;refine rN ?_;refine rW ?_
 refine nR ?_;refine rC ?_;refine rQ iB ?_;iterate 2 refine rC ?_
 cases c1 with
 | false =>
  iterate 3 refine rS ?_
  refine rQ iF ?_;refine rC ?_;refine nQ ?_;refine sR ?_;refine rC ?_;refine rQ iB ?_;refine nS ?_;refine wc_block ?_;refine sR ?_;iterate 2 refine rC ?_
  refine nS ?_;refine wT ?_;refine sR ?_;iterate 2 refine rC ?_
  iterate 5 refine rT ?_
  refine rQ iG ?_;refine rC ?_;iterate 5 refine rT ?_
  refine rQ iG ?_;refine rC ?_;iterate 4 refine rT ?_
  refine rQ iG ?_;refine rC ?_;iterate 3 refine rT ?_
  refine rQ iG ?_;refine nS ?_;refine wG ?_;refine wc_skip ?_;refine blk_n ?_;refine seq_n ?_;refine sR ?_;refine rC ?_;refine nS ?_;refine wc_ret ?_
  exact ⟨trivial, [], lf⟩
 | true =>
  refine rO ?_;refine rC ?_;refine rO ?_;refine rQ iB ?_;refine rO ?_;refine rC ?_;refine rQ iT ?_;refine rC ?_;refine nQ ?_;refine sR ?_;refine rC ?_;refine rQ iB ?_
  refine nS ?_;refine wc_block ?_;refine sR ?_;iterate 2 refine rC ?_
  refine nS ?_;refine wT ?_;refine sR ?_;iterate 2 refine rC ?_
  cases c2 with
  | false =>
   iterate 5 refine rS ?_
   refine rQ iF ?_;refine rC ?_;iterate 5 refine rT ?_
   refine rQ iG ?_;refine rC ?_;iterate 4 refine rT ?_
   refine rQ iG ?_;refine rC ?_;iterate 3 refine rT ?_
   refine rQ iG ?_;refine nS ?_;refine wG ?_;refine wc_skip ?_;refine blk_n ?_;refine seq_n ?_;refine sR ?_;refine rC ?_;refine nS ?_;refine wc_ret ?_
   exact ⟨trivial, [], lf⟩
  | true =>
   refine rO ?_;refine rC ?_;refine rO ?_;refine rC ?_;refine rO ?_;refine rQ iB ?_;refine rO ?_;refine rQ (call_r hpd rfl rfl (arg_e (arg_e arg_nil)) (.inl rfl) (fun _ => rfl)) ?_
   refine rO ?_;refine rC ?_;refine rQ iT ?_;refine rC ?_
   cases c3 with
   | false =>
    iterate 5 refine rS ?_
    refine rQ iF ?_;refine rC ?_;iterate 4 refine rT ?_
    refine rQ iG ?_;refine rC ?_;iterate 3 refine rT ?_
    refine rQ iG ?_;refine nS ?_;refine wG ?_;refine wc_skip ?_;refine blk_n ?_;refine seq_n ?_;refine sR ?_;refine rC ?_;refine nS ?_;refine wc_ret ?_
    exact ⟨trivial, [], lf⟩
   | true =>
    refine rO ?_;refine rC ?_;refine rO ?_;refine rC ?_;refine rO ?_;refine rQ iB ?_;refine rO ?_;refine rQ iE ?_;refine rO ?_;refine rC ?_;refine rQ iT ?_;refine rC ?_
    cases c4 with
    | false =>
     iterate 4 refine rS ?_
     refine rQ iF ?_;refine rC ?_;iterate 3 refine rT ?_
     refine rQ iG ?_;refine nS ?_;refine wG ?_;refine wc_skip ?_;refine blk_n ?_;refine seq_n ?_;refine sR ?_;refine rC ?_;refine nS ?_;refine wc_ret ?_
     exact ⟨trivial, [], lf⟩
    | true =>
     refine rO ?_;refine rC ?_;refine rO ?_;refine rQ iB ?_;refine rO ?_;refine rQ iM ?_;refine rO ?_;refine rQ (eql_data rfl rfl rfl rfl (by kernel_rfl) (by decide) (block_eq x.value zBk)) ?_
     refine rQ iT ?_;refine rC ?_
     cases c5 with
     | false =>
      iterate 3 refine rS ?_
      refine rQ iF ?_;refine nS ?_;refine wG ?_;refine wc_skip ?_;refine blk_n ?_;refine seq_n ?_;refine sR ?_;refine rC ?_;refine nS ?_;refine wc_ret ?_
      exact ⟨trivial, [], lf⟩
     | true =>
      refine rO ?_;refine rC ?_;refine rO ?_;refine rQ iB ?_;refine rO ?_;refine rC ?_;refine rQ iT ?_;refine nS ?_
      cases c6 with
      | false =>
       refine wF ?_;refine wc_skip ?_;refine blk_n ?_;refine seq_n ?_;refine sR ?_;refine rC ?_;refine nS ?_;refine wc_ret ?_
       exact ⟨trivial, [], lf⟩
      | true =>
       refine wT ?_;refine sR ?_;refine rC ?_;refine nS ?_;refine wc_ret ?_;refine blk_r ?_;refine seq_r ?_
       exact ⟨trivial, [], lf⟩
theorem fit2_is (h : List HEv) (x : HEv) (hL : h.length ≤ 9223372036854775807) (k2 : x.kind = 2) : FitIs h x (fit2 h x) := by
 have d1 : decide (x.kind = 1) = false := dF (by omega)
 have d2 : decide (x.kind = 2) = true := dT k2
 have d3 : decide (x.kind = 3) = false := dF (by omega)
 have hpd := pend_is h x.client hL
 have hpi := pend_in h x.client
 have hz := zero_is x.op
 obtain ⟨q4, hq4⟩ : ∃ q : Int, (if x.op = zOp then (1 : Int) else 0) = q := ⟨_, rfl⟩
 rw [hq4] at hz
 unfold fit2
 obtain ⟨c1, h1⟩ : ∃ c, decide (0 ≤ x.client) = c := ⟨_, rfl⟩
 rw [h1]
 refine fnIs_of tab_ok Tryz.func55 rfl rfl rfl ?_;refine sR ?_;refine rN ?_;refine rC ?_;refine nR ?_;refine rQ (build_array tab_ok rfl rfl rfl) ?_;refine rN ?_;refine rW ?_
 refine nR ?_;refine rC ?_;refine rQ iB ?_;iterate 2 refine rC ?_
 cases c1 with
 | false =>
  iterate 3 refine rS ?_
  refine rQ iF ?_;refine rC ?_;refine nQ ?_;refine sR ?_;refine rC ?_;refine rQ iB ?_;refine nS ?_;refine wc_block ?_;refine sR ?_;iterate 2 refine rC ?_
  refine nS ?_;refine wF ?_;refine sR ?_;iterate 2 refine rC ?_
  refine nS ?_;refine wT ?_;refine qR ?_;iterate 3 refine rC ?_
  iterate 5 refine rT ?_
  refine rQ iU ?_;refine rC ?_;iterate 4 refine rT ?_
  refine rQ iU ?_;refine nS ?_;refine wV ?_;refine sR ?_;refine rC ?_;refine nS ?_;refine wc_ret ?_;refine seq_r ?_;refine blk_r ?_;refine seq_r ?_
  exact ⟨trivial, [], lf⟩
 | true =>
  obtain ⟨c2, h2⟩ : ∃ c, decide (x.client ≤ 7) = c := ⟨_, rfl⟩
  rw [h2]
  refine rO ?_;refine rC ?_;refine rO ?_;refine rQ iB ?_;refine rO ?_;refine rC ?_;refine rQ iT ?_;refine rC ?_;refine nQ ?_;refine sR ?_;refine rC ?_;refine rQ iB ?_
  refine nS ?_;refine wc_block ?_;refine sR ?_;iterate 2 refine rC ?_
  refine nS ?_;refine wF ?_;refine sR ?_;iterate 2 refine rC ?_
  refine nS ?_;refine wT ?_;refine qR ?_;iterate 3 refine rC ?_
  cases c2 with
  | false =>
   have n2 : (!decide (x.client ≤ 7)) = true := by rw [h2]; rfl
   iterate 5 refine rS ?_
   refine rQ iT ?_;refine rC ?_;iterate 4 refine rT ?_
   refine rQ iU ?_;refine nS ?_;refine wV ?_;refine sR ?_;refine rC ?_;refine nS ?_;refine wc_ret ?_;refine seq_r ?_;refine blk_r ?_;refine seq_r ?_
   exact ⟨trivial, [], lf⟩
  | true =>
   have n2 : (!decide (x.client ≤ 7)) = false := by rw [h2]; rfl
   obtain ⟨c3, h3⟩ : ∃ c, decide (pend h x.client < 0) = c := ⟨_, rfl⟩
   rw [h3]
   refine rO ?_;refine rC ?_;refine rO ?_;refine rC ?_;refine rO ?_;refine rQ iB ?_;refine rO ?_;refine rQ (call_r hpd rfl rfl (arg_e (arg_e arg_nil)) (.inl rfl) (fun _ => rfl)) ?_
   refine rO ?_;refine rC ?_;refine rQ iF ?_;refine rC ?_
   cases c3 with
   | true =>
    iterate 4 refine rS ?_
    refine rQ iT ?_;refine nS ?_;refine wV ?_;refine sR ?_;refine rC ?_;refine nS ?_;refine wc_ret ?_;refine seq_r ?_;refine blk_r ?_;refine seq_r ?_
    exact ⟨trivial, [], lf⟩
   | false =>
    have hge : 0 ≤ pend h x.client := by have := of_decide_eq_false h3; omega
    obtain ⟨y, hy⟩ : ∃ y, h[(pend h x.client).toNat]? = some y := ⟨_, List.getElem?_eq_getElem (by omega)⟩
    rw [hy]
    refine rO ?_;refine rC ?_;refine rO ?_;refine rQ iB ?_;refine rO ?_;refine rQ (call_r hz rfl rfl (arg_e arg_nil) (.inl rfl) (fun _ => rfl)) ?_;refine rO ?_;refine rC ?_
    refine rQ iF ?_;refine nS ?_
    by_cases h4 : x.op = zOp
    ·rw [dT h4]
     rw [if_pos h4] at hq4
     subst hq4
     obtain ⟨e0, q0⟩ : ∃ c, (!decide (x.err = 0)) = c := ⟨_, rfl⟩
     have q0' : decide (x.err = 0) = !e0 := by rw [← q0, Bool.not_not]
     obtain ⟨kd, qk⟩ : ∃ c, decide (y.op.kind = 1) = c := ⟨_, rfl⟩
     obtain ⟨vz, qv⟩ : ∃ c, decide (x.value = zBk) = c := ⟨_, rfl⟩
     simp only [kn4, q0', qk, qv]
     refine wG ?_;refine kS ?_;refine qR ?_;refine rC ?_;refine rQ iB ?_;iterate 2 refine rC ?_
     cases e0 with
     | false =>
      iterate 3 refine rS ?_
      refine rQ iF ?_;refine rC ?_;iterate 3 refine rT ?_
      refine rQ iG ?_;refine rC ?_;iterate 3 refine rT ?_
      refine rQ iG ?_;refine nS ?_;refine wG ?_;refine kS ?_;refine sR ?_;iterate 3 refine rC ?_
      refine rQ iB ?_;refine rQ (call_r hpd rfl rfl (arg_e (arg_e arg_nil)) (.inl rfl) (fun _ => rfl)) ?_;refine rQ (index_arr tab_ok rfl rfl rfl rfl rfl (by omega) hy) ?_
      iterate 2 refine rC ?_
      refine rQ iL ?_;iterate 2 refine rC ?_
      cases kd with
      | true =>
       refine rO ?_;refine rC ?_;refine rO ?_;refine rQ iB ?_;refine rO ?_;refine rC ?_;refine rQ iT ?_;refine rC ?_;refine nR ?_;iterate 2 refine rC ?_
       iterate 4 refine rS ?_
       refine rQ iT ?_;refine nS ?_;refine wV ?_;refine sR ?_;refine rC ?_;refine nS ?_;refine wc_ret ?_;refine blk_r ?_;refine seq_r ?_
       exact ⟨trivial, [], lf⟩
      | false =>
       iterate 3 refine rS ?_
       refine rQ iF ?_;refine rC ?_;refine nR ?_;iterate 2 refine rC ?_
       refine rP ?_;refine rC ?_;refine rP ?_;refine rQ iB ?_;refine rP ?_;refine rQ iM ?_;refine rP ?_;refine rQ (eql_data rfl rfl rfl rfl (by kernel_rfl) (by decide) (block_eq x.value zBk)) ?_
       refine rQ iG ?_;refine nS ?_
       cases vz with
       | true =>
        refine wT ?_;refine sR ?_;refine rC ?_;refine nS ?_;refine wc_ret ?_;refine blk_r ?_;refine seq_r ?_
        exact ⟨trivial, [], lf⟩
       | false =>
        refine wF ?_;refine wc_skip ?_;refine blk_n ?_;refine seq_n ?_;refine sR ?_;refine rC ?_;refine nS ?_;refine wc_ret ?_
        exact ⟨trivial, [], lf⟩
     | true =>
      obtain ⟨e1, q1⟩ : ∃ c, (!decide (x.err = 1)) = c := ⟨_, rfl⟩
      have q1' : decide (x.err = 1) = !e1 := by rw [← q1, Bool.not_not]
      obtain ⟨e8, q8⟩ : ∃ c, (!decide (x.err = 8)) = c := ⟨_, rfl⟩
      have q8' : decide (x.err = 8) = !e8 := by rw [← q8, Bool.not_not]
      obtain ⟨e9, q9⟩ : ∃ c, (!decide (x.err = 9)) = c := ⟨_, rfl⟩
      have q9' : decide (x.err = 9) = !e9 := by rw [← q9, Bool.not_not]
      simp only [q1', q8', q9']
      refine rO ?_;refine rC ?_;refine rO ?_;refine rQ iB ?_;refine rO ?_;refine rC ?_;refine rQ iT ?_;refine rC ?_
      cases e1 with
      | false =>
       iterate 3 refine rS ?_
       refine rQ iF ?_;refine rC ?_;iterate 3 refine rT ?_
       refine rQ iG ?_;refine nS ?_;refine wG ?_;refine kS ?_;refine sR ?_;iterate 3 refine rC ?_
       refine rQ iB ?_;refine rQ (call_r hpd rfl rfl (arg_e (arg_e arg_nil)) (.inl rfl) (fun _ => rfl)) ?_;refine rQ (index_arr tab_ok rfl rfl rfl rfl rfl (by omega) hy) ?_
       iterate 2 refine rC ?_
       refine rQ iL ?_;iterate 2 refine rC ?_
       cases kd with
       | true =>
        refine rO ?_;refine rC ?_;refine rO ?_;refine rQ iB ?_;refine rO ?_;refine rC ?_;refine rQ iT ?_;refine rC ?_;refine nR ?_;iterate 2 refine rC ?_
        refine rO ?_;refine rC ?_;refine rO ?_;refine rQ iB ?_;refine rO ?_;refine rQ iM ?_;refine rO ?_;refine rQ (eql_data rfl rfl rfl rfl (by kernel_rfl) (by decide) (block_eq x.value zBk)) ?_
        refine rQ iF ?_;refine nS ?_
        cases vz with
        | true =>
         refine wT ?_;refine sR ?_;refine rC ?_;refine nS ?_;refine wc_ret ?_;refine blk_r ?_;refine seq_r ?_
         exact ⟨trivial, [], lf⟩
        | false =>
         refine wF ?_;refine wc_skip ?_;refine blk_n ?_;refine seq_n ?_;refine sR ?_;refine rC ?_;refine nS ?_;refine wc_ret ?_
         exact ⟨trivial, [], lf⟩
       | false =>
        iterate 3 refine rS ?_
        refine rQ iF ?_;refine rC ?_;refine nR ?_;iterate 2 refine rC ?_
        refine rP ?_;refine rC ?_;refine rP ?_;refine rQ iB ?_;refine rP ?_;refine rQ iM ?_;refine rP ?_;refine rQ (eql_data rfl rfl rfl rfl (by kernel_rfl) (by decide) (block_eq x.value zBk)) ?_
        refine rQ iG ?_;refine nS ?_
        cases vz with
        | true =>
         refine wT ?_;refine sR ?_;refine rC ?_;refine nS ?_;refine wc_ret ?_;refine blk_r ?_;refine seq_r ?_
         exact ⟨trivial, [], lf⟩
        | false =>
         refine wF ?_;refine wc_skip ?_;refine blk_n ?_;refine seq_n ?_;refine sR ?_;refine rC ?_;refine nS ?_;refine wc_ret ?_
         exact ⟨trivial, [], lf⟩
      | true =>
       refine rO ?_;refine rC ?_;refine rO ?_;refine rQ iB ?_;refine rO ?_;refine rC ?_;refine rQ iT ?_;refine rC ?_
       cases e8 with
       | false =>
        iterate 3 refine rS ?_
        refine rQ iF ?_;refine nS ?_;refine wG ?_;refine kS ?_;refine sR ?_;iterate 3 refine rC ?_
        refine rQ iB ?_;refine rQ (call_r hpd rfl rfl (arg_e (arg_e arg_nil)) (.inl rfl) (fun _ => rfl)) ?_;refine rQ (index_arr tab_ok rfl rfl rfl rfl rfl (by omega) hy) ?_
        iterate 2 refine rC ?_
        refine rQ iL ?_;iterate 2 refine rC ?_
        cases kd with
        | true =>
         refine rO ?_;refine rC ?_;refine rO ?_;refine rQ iB ?_;refine rO ?_;refine rC ?_;refine rQ iT ?_;refine rC ?_;refine nR ?_;iterate 2 refine rC ?_
         refine rO ?_;refine rC ?_;refine rO ?_;refine rQ iB ?_;refine rO ?_;refine rQ iM ?_;refine rO ?_;refine rQ (eql_data rfl rfl rfl rfl (by kernel_rfl) (by decide) (block_eq x.value zBk)) ?_
         refine rQ iF ?_;refine nS ?_
         cases vz with
         | true =>
          refine wT ?_;refine sR ?_;refine rC ?_;refine nS ?_;refine wc_ret ?_;refine blk_r ?_;refine seq_r ?_
          exact ⟨trivial, [], lf⟩
         | false =>
          refine wF ?_;refine wc_skip ?_;refine blk_n ?_;refine seq_n ?_;refine sR ?_;refine rC ?_;refine nS ?_;refine wc_ret ?_
          exact ⟨trivial, [], lf⟩
        | false =>
         iterate 3 refine rS ?_
         refine rQ iF ?_;refine rC ?_;refine nR ?_;iterate 2 refine rC ?_
         refine rP ?_;refine rC ?_;refine rP ?_;refine rQ iB ?_;refine rP ?_;refine rQ iM ?_;refine rP ?_;refine rQ (eql_data rfl rfl rfl rfl (by kernel_rfl) (by decide) (block_eq x.value zBk)) ?_
         refine rQ iG ?_;refine nS ?_
         cases vz with
         | true =>
          refine wT ?_;refine sR ?_;refine rC ?_;refine nS ?_;refine wc_ret ?_;refine blk_r ?_;refine seq_r ?_
          exact ⟨trivial, [], lf⟩
         | false =>
          refine wF ?_;refine wc_skip ?_;refine blk_n ?_;refine seq_n ?_;refine sR ?_;refine rC ?_;refine nS ?_;refine wc_ret ?_
          exact ⟨trivial, [], lf⟩
       | true =>
        refine rO ?_;refine rC ?_;refine rO ?_;refine rQ iB ?_;refine rO ?_;refine rC ?_;refine rQ iT ?_;refine nS ?_
        cases e9 with
        | false =>
         refine wF ?_;refine kS ?_;refine sR ?_;iterate 3 refine rC ?_
         refine rQ iB ?_;refine rQ (call_r hpd rfl rfl (arg_e (arg_e arg_nil)) (.inl rfl) (fun _ => rfl)) ?_;refine rQ (index_arr tab_ok rfl rfl rfl rfl rfl (by omega) hy) ?_
         iterate 2 refine rC ?_
         refine rQ iL ?_;iterate 2 refine rC ?_
         cases kd with
         | true =>
          refine rO ?_;refine rC ?_;refine rO ?_;refine rQ iB ?_;refine rO ?_;refine rC ?_;refine rQ iT ?_;refine rC ?_;refine nR ?_;iterate 2 refine rC ?_
          refine rO ?_;refine rC ?_;refine rO ?_;refine rQ iB ?_;refine rO ?_;refine rQ iM ?_;refine rO ?_;refine rQ (eql_data rfl rfl rfl rfl (by kernel_rfl) (by decide) (block_eq x.value zBk)) ?_
          refine rQ iF ?_;refine nS ?_
          cases vz with
          | true =>
           refine wT ?_;refine sR ?_;refine rC ?_;refine nS ?_;refine wc_ret ?_;refine blk_r ?_;refine seq_r ?_
           exact ⟨trivial, [], lf⟩
          | false =>
           refine wF ?_;refine wc_skip ?_;refine blk_n ?_;refine seq_n ?_;refine sR ?_;refine rC ?_;refine nS ?_;refine wc_ret ?_
           exact ⟨trivial, [], lf⟩
         | false =>
          iterate 3 refine rS ?_
          refine rQ iF ?_;refine rC ?_;refine nR ?_;iterate 2 refine rC ?_
          refine rP ?_;refine rC ?_;refine rP ?_;refine rQ iB ?_;refine rP ?_;refine rQ iM ?_;refine rP ?_;refine rQ (eql_data rfl rfl rfl rfl (by kernel_rfl) (by decide) (block_eq x.value zBk)) ?_
          refine rQ iG ?_;refine nS ?_
          cases vz with
          | true =>
           refine wT ?_;refine sR ?_;refine rC ?_;refine nS ?_;refine wc_ret ?_;refine blk_r ?_;refine seq_r ?_
           exact ⟨trivial, [], lf⟩
          | false =>
           refine wF ?_;refine wc_skip ?_;refine blk_n ?_;refine seq_n ?_;refine sR ?_;refine rC ?_;refine nS ?_;refine wc_ret ?_
           exact ⟨trivial, [], lf⟩
        | true =>
         refine wT ?_;refine sR ?_;refine rC ?_;refine nS ?_;refine wc_ret ?_;refine seq_r ?_;refine blk_r ?_;refine seq_r ?_
         exact ⟨trivial, [], lf⟩
    ·rw [dF h4]
     rw [if_neg h4] at hq4
     subst hq4
     refine wV ?_;refine sR ?_;refine rC ?_;refine nS ?_;refine wc_ret ?_;refine seq_r ?_;refine blk_r ?_;refine seq_r ?_
     exact ⟨trivial, [], lf⟩
theorem fit3_is (h : List HEv) (x : HEv) (k1 : x.kind ≠ 1) (k2 : x.kind ≠ 2) (c0 c3 : Bool) (h0 : decide (0 ≤ x.client) = c0) (h3 : decide (x.kind = 3) = c3) : FitIs h x (c3 && crash1 x) := by
 have d1 : decide (x.kind = 1) = false := dF k1
 have d2 : decide (x.kind = 2) = false := dF k2
 have hz := zero_is x.op
 unfold crash1
 cases c3 with
 | false =>
  cases c0 with
  | false =>
   refine fnIs_of tab_ok Tryz.func55 rfl rfl rfl ?_;refine sR ?_;refine rN ?_;refine rC ?_;refine nR ?_;refine rQ (build_array tab_ok rfl rfl rfl) ?_;refine rN ?_;refine rW ?_
   refine nR ?_;refine rC ?_;refine rQ iB ?_;iterate 2 refine rC ?_
   iterate 3 refine rS ?_
   refine rQ iF ?_;refine rC ?_;refine nQ ?_;refine sR ?_;refine rC ?_;refine rQ iB ?_;refine nS ?_;refine wc_block ?_;refine sR ?_;iterate 2 refine rC ?_
   refine nS ?_;refine wF ?_;refine sR ?_;iterate 2 refine rC ?_
   refine nS ?_;refine wF ?_;refine sR ?_;iterate 2 refine rC ?_
   refine nS ?_;refine wF ?_;refine wc_skip ?_;refine blk_n ?_;refine seq_n ?_;refine sR ?_;refine rC ?_;refine nS ?_;refine wc_ret ?_
   exact ⟨trivial, [], lf⟩
  | true =>
   refine fnIs_of tab_ok Tryz.func55 rfl rfl rfl ?_;refine sR ?_;refine rN ?_;refine rC ?_;refine nR ?_;refine rQ (build_array tab_ok rfl rfl rfl) ?_;refine rN ?_;refine rW ?_
   refine nR ?_;refine rC ?_;refine rQ iB ?_;iterate 2 refine rC ?_
   refine rO ?_;refine rC ?_;refine rO ?_;refine rQ iB ?_;refine rO ?_;refine rC ?_;refine rQ iT ?_;refine rC ?_;refine nQ ?_;refine sR ?_;refine rC ?_;refine rQ iB ?_
   refine nS ?_;refine wc_block ?_;refine sR ?_;iterate 2 refine rC ?_
   refine nS ?_;refine wF ?_;refine sR ?_;iterate 2 refine rC ?_
   refine nS ?_;refine wF ?_;refine sR ?_;iterate 2 refine rC ?_
   refine nS ?_;refine wF ?_;refine wc_skip ?_;refine blk_n ?_;refine seq_n ?_;refine sR ?_;refine rC ?_;refine nS ?_;refine wc_ret ?_
   exact ⟨trivial, [], lf⟩
 | true =>
  obtain ⟨c1, h1⟩ : ∃ c, decide (x.client = 0) = c := ⟨_, rfl⟩
  rw [h1]
  cases c0 with
  | false =>
   have e1 : c1 = false := by rw [← h1]; exact dF (by have := of_decide_eq_false h0; omega)
   subst e1
   refine fnIs_of tab_ok Tryz.func55 rfl rfl rfl ?_;refine sR ?_;refine rN ?_;refine rC ?_;refine nR ?_;refine rQ (build_array tab_ok rfl rfl rfl) ?_;refine rN ?_;refine rW ?_
   refine nR ?_;refine rC ?_;refine rQ iB ?_;iterate 2 refine rC ?_
   iterate 3 refine rS ?_
   refine rQ iF ?_;refine rC ?_;refine nQ ?_;refine sR ?_;refine rC ?_;refine rQ iB ?_;refine nS ?_;refine wc_block ?_;refine sR ?_;iterate 2 refine rC ?_
   refine nS ?_;refine wF ?_;refine sR ?_;iterate 2 refine rC ?_
   refine nS ?_;refine wF ?_;refine sR ?_;iterate 2 refine rC ?_
   refine nS ?_;refine wT ?_;refine sR ?_;refine rC ?_;refine rQ iB ?_;iterate 2 refine rC ?_
   iterate 4 refine rS ?_
   refine rQ iF ?_;refine rC ?_;iterate 4 refine rT ?_
   refine rQ iG ?_;refine rC ?_;iterate 3 refine rT ?_
   refine rQ iG ?_;refine nS ?_;refine wG ?_;refine wc_skip ?_;refine blk_n ?_;refine seq_n ?_;refine sR ?_;refine rC ?_;refine nS ?_;refine wc_ret ?_
   exact ⟨trivial, [], lf⟩
  | true =>
   cases c1 with
   | false =>
    refine fnIs_of tab_ok Tryz.func55 rfl rfl rfl ?_;refine sR ?_;refine rN ?_;refine rC ?_;refine nR ?_;refine rQ (build_array tab_ok rfl rfl rfl) ?_;refine rN ?_;refine rW ?_
    refine nR ?_;refine rC ?_;refine rQ iB ?_;iterate 2 refine rC ?_
    refine rO ?_;refine rC ?_;refine rO ?_;refine rQ iB ?_;refine rO ?_;refine rC ?_;refine rQ iT ?_;refine rC ?_;refine nQ ?_;refine sR ?_;refine rC ?_;refine rQ iB ?_
    refine nS ?_;refine wc_block ?_;refine sR ?_;iterate 2 refine rC ?_
    refine nS ?_;refine wF ?_;refine sR ?_;iterate 2 refine rC ?_
    refine nS ?_;refine wF ?_;refine sR ?_;iterate 2 refine rC ?_
    refine nS ?_;refine wT ?_;refine sR ?_;refine rC ?_;refine rQ iB ?_;iterate 2 refine rC ?_
    iterate 4 refine rS ?_
    refine rQ iF ?_;refine rC ?_;iterate 4 refine rT ?_
    refine rQ iG ?_;refine rC ?_;iterate 3 refine rT ?_
    refine rQ iG ?_;refine nS ?_;refine wG ?_;refine wc_skip ?_;refine blk_n ?_;refine seq_n ?_;refine sR ?_;refine rC ?_;refine nS ?_;refine wc_ret ?_
    exact ⟨trivial, [], lf⟩
   | true =>
    by_cases h4 : x.op = zOp
    ·rw [dT h4]
     rw [if_pos h4] at hz
     obtain ⟨c5, h5⟩ : ∃ c, decide (x.value = zBk) = c := ⟨_, rfl⟩
     rw [h5]
     cases c5 with
     | false =>
      refine fnIs_of tab_ok Tryz.func55 rfl rfl rfl ?_;refine sR ?_;refine rN ?_;refine rC ?_;refine nR ?_;refine rQ (build_array tab_ok rfl rfl rfl) ?_;refine rN ?_;refine rW ?_
      refine nR ?_;refine rC ?_;refine rQ iB ?_;iterate 2 refine rC ?_
      refine rO ?_;refine rC ?_;refine rO ?_;refine rQ iB ?_;refine rO ?_;refine rC ?_;refine rQ iT ?_;refine rC ?_;refine nQ ?_;refine sR ?_;refine rC ?_;refine rQ iB ?_
      refine nS ?_;refine wc_block ?_;refine sR ?_;iterate 2 refine rC ?_
      refine nS ?_;refine wF ?_;refine sR ?_;iterate 2 refine rC ?_
      refine nS ?_;refine wF ?_;refine sR ?_;iterate 2 refine rC ?_
      refine nS ?_;refine wT ?_;refine sR ?_;refine rC ?_;refine rQ iB ?_;iterate 2 refine rC ?_
      refine rO ?_;refine rC ?_;refine rO ?_;refine rQ iB ?_;refine rO ?_;refine rQ (call_r hz rfl rfl (arg_e arg_nil) (.inl rfl) (fun _ => rfl)) ?_;refine rO ?_;refine rC ?_
      refine rQ iT ?_;refine rC ?_;refine rP ?_;refine rC ?_;refine rP ?_;refine rQ iB ?_;refine rP ?_;refine rQ iM ?_;refine rP ?_;refine rQ (eql_data rfl rfl rfl rfl (by kernel_rfl) (by decide) (block_eq x.value zBk)) ?_
      refine rQ iU ?_;refine rC ?_;iterate 3 refine rS ?_
      refine rQ iF ?_;refine nS ?_;refine wG ?_;refine wc_skip ?_;refine blk_n ?_;refine seq_n ?_;refine sR ?_;refine rC ?_;refine nS ?_;refine wc_ret ?_
      exact ⟨trivial, [], lf⟩
     | true =>
      obtain ⟨c6, h6⟩ : ∃ c, decide (x.err = 0) = c := ⟨_, rfl⟩
      rw [h6]
      cases c6 with
      | false =>
       refine fnIs_of tab_ok Tryz.func55 rfl rfl rfl ?_;refine sR ?_;refine rN ?_;refine rC ?_;refine nR ?_;refine rQ (build_array tab_ok rfl rfl rfl) ?_;refine rN ?_;refine rW ?_
       refine nR ?_;refine rC ?_;refine rQ iB ?_;iterate 2 refine rC ?_
       refine rO ?_;refine rC ?_;refine rO ?_;refine rQ iB ?_;refine rO ?_;refine rC ?_;refine rQ iT ?_;refine rC ?_;refine nQ ?_;refine sR ?_;refine rC ?_;refine rQ iB ?_
       refine nS ?_;refine wc_block ?_;refine sR ?_;iterate 2 refine rC ?_
       refine nS ?_;refine wF ?_;refine sR ?_;iterate 2 refine rC ?_
       refine nS ?_;refine wF ?_;refine sR ?_;iterate 2 refine rC ?_
       refine nS ?_;refine wT ?_;refine sR ?_;refine rC ?_;refine rQ iB ?_;iterate 2 refine rC ?_
       refine rO ?_;refine rC ?_;refine rO ?_;refine rQ iB ?_;refine rO ?_;refine rQ (call_r hz rfl rfl (arg_e arg_nil) (.inl rfl) (fun _ => rfl)) ?_;refine rO ?_;refine rC ?_
       refine rQ iT ?_;refine rC ?_;refine rP ?_;refine rC ?_;refine rP ?_;refine rQ iB ?_;refine rP ?_;refine rQ iM ?_;refine rP ?_;refine rQ (eql_data rfl rfl rfl rfl (by kernel_rfl) (by decide) (block_eq x.value zBk)) ?_
       refine rQ iU ?_;refine rC ?_;refine rO ?_;refine rC ?_;refine rO ?_;refine rQ iB ?_;refine rO ?_;refine rC ?_;refine rQ iT ?_;refine nS ?_;refine wF ?_;refine wc_skip ?_
       refine blk_n ?_;refine seq_n ?_;refine sR ?_;refine rC ?_;refine nS ?_;refine wc_ret ?_
       exact ⟨trivial, [], lf⟩
      | true =>
       refine fnIs_of tab_ok Tryz.func55 rfl rfl rfl ?_;refine sR ?_;refine rN ?_;refine rC ?_;refine nR ?_;refine rQ (build_array tab_ok rfl rfl rfl) ?_;refine rN ?_;refine rW ?_
       refine nR ?_;refine rC ?_;refine rQ iB ?_;iterate 2 refine rC ?_
       refine rO ?_;refine rC ?_;refine rO ?_;refine rQ iB ?_;refine rO ?_;refine rC ?_;refine rQ iT ?_;refine rC ?_;refine nQ ?_;refine sR ?_;refine rC ?_;refine rQ iB ?_
       refine nS ?_;refine wc_block ?_;refine sR ?_;iterate 2 refine rC ?_
       refine nS ?_;refine wF ?_;refine sR ?_;iterate 2 refine rC ?_
       refine nS ?_;refine wF ?_;refine sR ?_;iterate 2 refine rC ?_
       refine nS ?_;refine wT ?_;refine sR ?_;refine rC ?_;refine rQ iB ?_;iterate 2 refine rC ?_
       refine rO ?_;refine rC ?_;refine rO ?_;refine rQ iB ?_;refine rO ?_;refine rQ (call_r hz rfl rfl (arg_e arg_nil) (.inl rfl) (fun _ => rfl)) ?_;refine rO ?_;refine rC ?_
       refine rQ iT ?_;refine rC ?_;refine rP ?_;refine rC ?_;refine rP ?_;refine rQ iB ?_;refine rP ?_;refine rQ iM ?_;refine rP ?_;refine rQ (eql_data rfl rfl rfl rfl (by kernel_rfl) (by decide) (block_eq x.value zBk)) ?_
       refine rQ iU ?_;refine rC ?_;refine rO ?_;refine rC ?_;refine rO ?_;refine rQ iB ?_;refine rO ?_;refine rC ?_;refine rQ iT ?_;refine nS ?_;refine wT ?_;refine sR ?_
       refine rC ?_;refine nS ?_;refine wc_ret ?_;refine blk_r ?_;refine seq_r ?_
       exact ⟨trivial, [], lf⟩
    ·rw [dF h4]
     rw [if_neg h4] at hz
     refine fnIs_of tab_ok Tryz.func55 rfl rfl rfl ?_;refine sR ?_;refine rN ?_;refine rC ?_;refine nR ?_;refine rQ (build_array tab_ok rfl rfl rfl) ?_;refine rN ?_;refine rW ?_
     refine nR ?_;refine rC ?_;refine rQ iB ?_;iterate 2 refine rC ?_
     refine rO ?_;refine rC ?_;refine rO ?_;refine rQ iB ?_;refine rO ?_;refine rC ?_;refine rQ iT ?_;refine rC ?_;refine nQ ?_;refine sR ?_;refine rC ?_;refine rQ iB ?_
     refine nS ?_;refine wc_block ?_;refine sR ?_;iterate 2 refine rC ?_
     refine nS ?_;refine wF ?_;refine sR ?_;iterate 2 refine rC ?_
     refine nS ?_;refine wF ?_;refine sR ?_;iterate 2 refine rC ?_
     refine nS ?_;refine wT ?_;refine sR ?_;refine rC ?_;refine rQ iB ?_;iterate 2 refine rC ?_
     refine rO ?_;refine rC ?_;refine rO ?_;refine rQ iB ?_;refine rO ?_;refine rQ (call_r hz rfl rfl (arg_e arg_nil) (.inl rfl) (fun _ => rfl)) ?_;refine rO ?_;refine rC ?_
     refine rQ iT ?_;refine rC ?_;iterate 4 refine rT ?_
     refine rQ iG ?_;refine rC ?_;iterate 3 refine rT ?_
     refine rQ iG ?_;refine nS ?_;refine wG ?_;refine wc_skip ?_;refine blk_n ?_;refine seq_n ?_;refine sR ?_;refine rC ?_;refine nS ?_;refine wc_ret ?_
     exact ⟨trivial, [], lf⟩
theorem fits_is (h : List HEv) (x : HEv) (hL : h.length ≤ 9223372036854775807) : FitIs h x (fitB h x) := by
 unfold fitB
 by_cases k1 : x.kind = 1
 ·rw [if_pos k1]
  have := fit1_w h x hL k1 _ _ _ _ _ _ rfl rfl rfl rfl rfl rfl
  have e : decide (((byI x.op.data).length : Int) ≤ 64) = decide (x.op.data.length ≤ 64) := decide_eq_decide.2 (by rw [byI_len]; omega)
  rw [e] at this
  exact this
 ·rw [if_neg k1]
  by_cases k2 : x.kind = 2
  ·rw [if_pos k2]; exact fit2_is h x hL k2
  ·rw [if_neg k2]
   have := fit3_is h x k1 k2 _ _ rfl rfl
   by_cases k3 : x.kind = 3
   ·rw [if_pos k3]; rw [dT k3] at this; exact this
   ·rw [if_neg k3]; rw [dF k3] at this; exact this
def rchkG (h : List HEv) : Nat → Nat → Int × Int
 | 0, _ => (0, 0)
 | n + 1, i => match h[i]? with
  | none => (0, 0)
  | some x => if fitB (h.take i) x then rchkG h n (i + 1) else ((i : Int), 18)
def rchk (h : List HEv) : Int × Int := if 8192 < h.length then (0, 3) else rchkG h h.length 0
def fewB (h : List HEv) : Bool := decide (h.length ≤ 60) && h.all fun x => decide (x.op.data.length ≤ 70)
end Go.Proofs.YtmojbghcngdkpaaGreatDoor
