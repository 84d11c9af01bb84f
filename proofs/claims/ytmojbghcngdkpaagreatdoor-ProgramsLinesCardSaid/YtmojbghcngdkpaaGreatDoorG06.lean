/- Texts of the proof: P41, P44, P45, P46, Eng83, Eng84, P47a, P47, P48, PO, JP, JQ, P49, P50. -/
import Derived.Test.YtmojbghcngdkpaaGreatDoorG05
import Derived.Test.YtmojbghcngdkpaaGreatDoorG02
import Derived.Test.YtmojbghcngdkpaaGreatDoorRows
import Derived.ProofKit
import Derived.LaidMore
import Derived.OpenShut
import Derived.Stop.Joined
import Derived.HandedShaped
import Derived.Lay
import Derived.SevenTiedAt

set_option linter.unusedVariables false
set_option linter.unusedSimpArgs false
set_option linter.unusedSectionVars false

namespace Go.Proofs.YtmojbghcngdkpaaGreatDoor
open Go.Eng Go.Plain
set_option maxHeartbeats 4000000
set_option maxRecDepth 20000
attribute [local irreducible] WC RegS RegD SeqQ BlkQ ScoQ RegK CutK Sat SatN FnIs LoopQ StepIs OpIs
@[reducible] def accA : List Int → AV
  | [] => .d (.sc nil_)
  | x :: xs => .own 65 0 (xs.length + 1) 1 none
@[reducible] def accH : List Int → Upds
  | [] => []
  | x :: xs => [(65, some (rowI (x :: xs)))]
@[reducible] noncomputable def tS1 (l : List (List POp)) (b : Int) (a : List Int × Nat) : St := ⟨[(12, .int .i64 a.2), (11, .int .i64 l.length), (10, .d (encPL l)), (5, accA a.1), (1, .int .i64 b)], accH a.1, 72, Tryz.f43.ntmps, 64⟩
@[reducible] noncomputable def tS2 (l : List (List POp)) (b : Int) (i : Nat) (p : List POp) (a : List Int × Nat) : St := ⟨[(18, .int .i64 a.2), (17, .int .i64 p.length), (16, .d (encP p)), (12, .int .i64 i), (11, .int .i64 l.length), (10, .d (encPL l)), (5, accA a.1), (1, .int .i64 b)], accH a.1, 72, Tryz.f43.ntmps, 64⟩
theorem clipi_nil : FnIs Tryz.prog 87 [.d (.sc nil_)] [] (.d (.arx 1 i6 [])) [] := FnIs.args_le (avs' := [.d (.arr 1 i6 [])]) ⟨⟨nil_arr _ _, fun _ _ => trivial⟩, trivial⟩ (clipi_is [])
theorem touched_is (l : List (List POp)) (b : Int) (hL : l.length ≤ 100000) (hF : l.flatten.length ≤ 100000) : FnIs Tryz.prog 43 [.d (encPL l), .int .i64 b] [] (.d (.arx 1 i6 (touL b l.flatten))) [] := by
  refine fnIs_of tab_ok Tryz.func43 rfl rfl rfl ?_;refine sR ?_;refine rC ?_;refine nR ?_;refine rC ?_;refine nQ ?_;refine sR ?_;refine rC ?_;refine rQ iE ?_;refine rC ?_
  refine nS ?_;refine wc_block ?_
  refine wc_inv (tS1 l b) (fun a => a.2 ≤ l.length ∧ a.1 = idxL b (l.take a.2).flatten) (fun a => l.length - a.2) ([], 0) [] ⟨Nat.zero_le _, rfl⟩
    (.of rfl rfl rfl rfl rfl ⟨⟨_, rfl, .refl _⟩, rfl, ⟨_, rfl, .refl _⟩, rfl, ⟨_, rfl, .refl _⟩, rfl, ⟨_, rfl, .refl _⟩, rfl, ⟨_, rfl, .refl _⟩, rfl, trivial⟩ trivial) ?_
  rintro ⟨acc, i⟩ ⟨hi, hacc⟩
  simp only at hi hacc
  cases acc with
  | nil =>
    refine wc_of ?_;refine sR ?_;refine rC ?_;refine nQ ?_
    refine wc_cond rfl (fun h3 => ?_) (fun h3 => ?_)
    · have hlt : i < l.length := by have := of_decide_eq_true h3; omega
      clear h3
      obtain ⟨p, hp⟩ : ∃ p, l[i]? = some p := ⟨_, List.getElem?_eq_getElem hlt⟩
      have hp' : l[((i : Int)).toNat]? = some p := by rw [Int.toNat_natCast]; exact hp
      have hfm := flat_mem_le hp
      rw [← preO_zero l i p] at hacc
      refine kS ?_;refine wc_seq ?_;refine wc_block ?_;refine sR ?_;refine rQ iA ?_;refine rQ iL ?_;refine rC ?_;refine nR ?_;refine rC ?_;refine rQ iE ?_;refine rC ?_
      refine nS ?_;refine wc_block ?_
      refine wc_inv (tS2 l b i p) (fun a => a.2 ≤ p.length ∧ a.1 = idxL b (preO l i p a.2)) (fun a => p.length - a.2) (([] : List Int), 0) [] ⟨Nat.zero_le _, hacc⟩
        (.of rfl rfl rfl rfl rfl ⟨⟨_, rfl, .refl _⟩, rfl, ⟨_, rfl, .refl _⟩, rfl, ⟨_, rfl, .refl _⟩, rfl, ⟨_, rfl, .refl _⟩, rfl, ⟨_, rfl, .refl _⟩, rfl, ⟨_, rfl, .refl _⟩, rfl, ⟨_, rfl, .refl _⟩, rfl, ⟨_, rfl, .refl _⟩, rfl, trivial⟩ trivial) ?_
      rintro ⟨acc, j⟩ ⟨hj, hacc⟩
      simp only at hj hacc
      cases acc with
      | nil =>
        refine wc_of ?_;refine sR ?_;refine rC ?_;refine nQ ?_
        refine wc_cond rfl (fun h4 => ?_) (fun h4 => ?_)
        · have hjl : j < p.length := by have := of_decide_eq_true h4; omega
          clear h4
          obtain ⟨o, ho⟩ : ∃ o, p[j]? = some o := ⟨_, List.getElem?_eq_getElem hjl⟩
          have ho' : p[((j : Int)).toNat]? = some o := by rw [Int.toNat_natCast]; exact ho
          have hgo := preO_go (l := l) (i := i) ho
          have hle := preO_le (j := j) hp
          have hstep : idxL b (preO l i p (j + 1)) = if touB b o = true then idxL b (preO l i p j) ++ [o.index] else idxL b (preO l i p j) := by rw [hgo, idxL_snoc]
          have hil := idxL_len b (preO l i p j)
          rw [← hacc] at hstep hil
          have hbad := bad_is o b
          by_cases k3 : o.kind = 3
          · have hk : (!decide (o.kind = 3)) = false := by rw [decide_eq_true k3]; rfl
            rw [if_neg (by rw [touB, hk, Bool.false_and]; decide)] at hstep
            refine kS ?_;refine wc_seq ?_;refine wc_block ?_;refine sR ?_;refine rQ iA ?_;refine rQ iL ?_;refine rN ?_;refine rW ?_;refine nR ?_;refine rC ?_;refine rQ iB ?_
            iterate 2 refine rC ?_
            iterate 4 refine rS ?_
            refine rQ iF ?_;refine nS ?_;refine wG ?_;refine wc_skip ?_;refine blk_n ?_;refine seq_n ?_;refine wc_region ?_;refine rQ iD ?_;refine rC ?_;refine reg_nil ?_
            exact loop_n (([] : List Int), j + 1) [] ⟨hjl, hstep.symm⟩ (by show p.length - (j + 1) < p.length - j; omega) (.of rfl rfl rfl rfl rfl ⟨⟨_, rfl, .refl _⟩, rfl, ⟨_, rfl, .refl _⟩, rfl, ⟨_, rfl, .refl _⟩, rfl, ⟨_, rfl, .refl _⟩, rfl, ⟨_, rfl, .refl _⟩, rfl, ⟨_, rfl, .refl _⟩, rfl, ⟨_, rfl, .refl _⟩, rfl, ⟨_, rfl, .refl _⟩, rfl, trivial⟩ trivial)
          have hk : (!decide (o.kind = 3)) = true := by rw [decide_eq_false k3]; rfl
          cases hb : badO o b with
          | true =>
            rw [hb] at hbad
            rw [if_neg (by rw [touB, hk, hb]; decide)] at hstep
            refine kS ?_;refine wc_seq ?_;refine wc_block ?_;refine sR ?_;refine rQ iA ?_;refine rQ iL ?_;refine rN ?_;refine rW ?_;refine nR ?_;refine rC ?_;refine rQ iB ?_
            iterate 2 refine rC ?_
            refine rO ?_;refine rQ iM ?_;refine rO ?_;refine rC ?_;refine rO ?_;refine rQ (call_r hbad rfl rfl (arg_e (arg_e arg_nil)) (.inl rfl) (fun _ => rfl)) ?_;refine rO ?_
            refine rC ?_;refine rQ iT ?_;refine nS ?_;refine wG ?_;refine wc_skip ?_;refine blk_n ?_;refine seq_n ?_;refine wc_region ?_;refine rQ iD ?_;refine rC ?_;refine reg_nil ?_
            exact loop_n (([] : List Int), j + 1) [] ⟨hjl, hstep.symm⟩ (by show p.length - (j + 1) < p.length - j; omega) (.of rfl rfl rfl rfl rfl ⟨⟨_, rfl, .refl _⟩, rfl, ⟨_, rfl, .refl _⟩, rfl, ⟨_, rfl, .refl _⟩, rfl, ⟨_, rfl, .refl _⟩, rfl, ⟨_, rfl, .refl _⟩, rfl, ⟨_, rfl, .refl _⟩, rfl, ⟨_, rfl, .refl _⟩, rfl, ⟨_, rfl, .refl _⟩, rfl, trivial⟩ trivial)
          | false =>
            rw [hb] at hbad
            rw [if_pos (by rw [touB, hk, hb]; rfl)] at hstep
            have hA : ([] : List Int).length + 1 ≤ 1048576 := by omega
            refine kS ?_;refine wc_seq ?_;refine wc_block ?_;refine sR ?_;refine rQ iA ?_;refine rQ iL ?_;refine rN ?_;refine rW ?_;refine nR ?_;refine rC ?_;refine rQ iB ?_
            iterate 2 refine rC ?_
            refine rO ?_;refine rQ iM ?_;refine rO ?_;refine rC ?_;refine rO ?_;refine rQ (call_r hbad rfl rfl (arg_e (arg_e arg_nil)) (.inl rfl) (fun _ => rfl)) ?_;refine rO ?_
            refine rC ?_;refine rQ iT ?_;refine nS ?_;refine wV ?_;refine wc_region ?_;iterate 2 refine rC ?_
            refine rQ iB ?_;refine reg_new (build_slice (s := 1) tab_ok rfl rfl rfl rfl rfl rfl rfl rfl) rfl ?_;refine reg_new (append_nil_one (s := 1) (enc := i6) tab_ok o.index rfl rfl rfl rfl rfl rfl rfl rfl) rfl ?_
            refine rC ?_;refine reg_nil ?_;refine blk_n ?_;refine seq_n ?_;refine wc_region ?_;refine rQ iD ?_;refine rC ?_;refine reg_nil ?_
            exact loop_n ([o.index], j + 1) [(65, some 216)] ⟨hjl, hstep.symm⟩ (by show p.length - (j + 1) < p.length - j; omega) (.of rfl rfl rfl rfl rfl ⟨⟨_, rfl, .refl _⟩, rfl, ⟨_, rfl, .refl _⟩, rfl, ⟨_, rfl, .refl _⟩, rfl, ⟨_, rfl, .refl _⟩, rfl, ⟨_, rfl, .refl _⟩, rfl, ⟨_, rfl, .refl _⟩, rfl, ⟨_, rfl, .refl _⟩, rfl, ⟨_, rfl, .refl _⟩, rfl, trivial⟩ ⟨⟨rfl, rfl, _, rfl, .refl _⟩, trivial⟩)
        · have he : j = p.length := by have := of_decide_eq_false h4; omega
          subst he
          clear h4
          refine wc_exit ?_;refine seq_x ?_;refine loop_x ?_;refine blk_x ?_;refine blk_n ?_;refine seq_n ?_;refine wc_region ?_;refine rQ iD ?_;refine rC ?_;refine reg_nil ?_
          rw [preO_end hp] at hacc
          exact loop_n (([] : List Int), i + 1) [] ⟨hlt, hacc⟩ (by show l.length - (i + 1) < l.length - i; omega) (.of rfl rfl rfl rfl rfl ⟨⟨_, rfl, .refl _⟩, rfl, ⟨_, rfl, .refl _⟩, rfl, ⟨_, rfl, .refl _⟩, rfl, ⟨_, rfl, .refl _⟩, rfl, ⟨_, rfl, .refl _⟩, rfl, trivial⟩ trivial)
      | cons x xs =>
        refine wc_of ?_;refine sR ?_;refine rC ?_;refine nQ ?_
        refine wc_cond rfl (fun h4 => ?_) (fun h4 => ?_)
        · have hjl : j < p.length := by have := of_decide_eq_true h4; omega
          clear h4
          obtain ⟨o, ho⟩ : ∃ o, p[j]? = some o := ⟨_, List.getElem?_eq_getElem hjl⟩
          have ho' : p[((j : Int)).toNat]? = some o := by rw [Int.toNat_natCast]; exact ho
          have hgo := preO_go (l := l) (i := i) ho
          have hle := preO_le (j := j) hp
          have hstep : idxL b (preO l i p (j + 1)) = if touB b o = true then idxL b (preO l i p j) ++ [o.index] else idxL b (preO l i p j) := by rw [hgo, idxL_snoc]
          have hil := idxL_len b (preO l i p j)
          rw [← hacc] at hstep hil
          have hbad := bad_is o b
          by_cases k3 : o.kind = 3
          · have hk : (!decide (o.kind = 3)) = false := by rw [decide_eq_true k3]; rfl
            rw [if_neg (by rw [touB, hk, Bool.false_and]; decide)] at hstep
            refine kS ?_;refine wc_seq ?_;refine wc_block ?_;refine sR ?_;refine rQ iA ?_;refine rQ iL ?_;refine rN ?_;refine rW ?_;refine nR ?_;refine rC ?_;refine rQ iB ?_
            iterate 2 refine rC ?_
            iterate 4 refine rS ?_
            refine rQ iF ?_;refine nS ?_;refine wG ?_;refine wc_skip ?_;refine blk_n ?_;refine seq_n ?_;refine wc_region ?_;refine rQ iD ?_;refine rC ?_;refine reg_nil ?_
            exact loop_n ((x :: xs), j + 1) [] ⟨hjl, hstep.symm⟩ (by show p.length - (j + 1) < p.length - j; omega) (.of rfl rfl rfl rfl rfl ⟨⟨_, rfl, .refl _⟩, rfl, ⟨_, rfl, .refl _⟩, rfl, ⟨_, rfl, .refl _⟩, rfl, ⟨_, rfl, .refl _⟩, rfl, ⟨_, rfl, .refl _⟩, rfl, ⟨_, rfl, .refl _⟩, rfl, ⟨_, rfl, .refl _⟩, rfl, ⟨_, rfl, .refl _⟩, rfl, trivial⟩ ⟨⟨rfl, rfl, _, rfl, .refl _⟩, trivial⟩)
          have hk : (!decide (o.kind = 3)) = true := by rw [decide_eq_false k3]; rfl
          cases hb : badO o b with
          | true =>
            rw [hb] at hbad
            rw [if_neg (by rw [touB, hk, hb]; decide)] at hstep
            refine kS ?_;refine wc_seq ?_;refine wc_block ?_;refine sR ?_;refine rQ iA ?_;refine rQ iL ?_;refine rN ?_;refine rW ?_;refine nR ?_;refine rC ?_;refine rQ iB ?_
            iterate 2 refine rC ?_
            refine rO ?_;refine rQ iM ?_;refine rO ?_;refine rC ?_;refine rO ?_;refine rQ (call_r hbad rfl rfl (arg_e (arg_e arg_nil)) (.inl rfl) (fun _ => rfl)) ?_;refine rO ?_
            refine rC ?_;refine rQ iT ?_;refine nS ?_;refine wG ?_;refine wc_skip ?_;refine blk_n ?_;refine seq_n ?_;refine wc_region ?_;refine rQ iD ?_;refine rC ?_;refine reg_nil ?_
            exact loop_n ((x :: xs), j + 1) [] ⟨hjl, hstep.symm⟩ (by show p.length - (j + 1) < p.length - j; omega) (.of rfl rfl rfl rfl rfl ⟨⟨_, rfl, .refl _⟩, rfl, ⟨_, rfl, .refl _⟩, rfl, ⟨_, rfl, .refl _⟩, rfl, ⟨_, rfl, .refl _⟩, rfl, ⟨_, rfl, .refl _⟩, rfl, ⟨_, rfl, .refl _⟩, rfl, ⟨_, rfl, .refl _⟩, rfl, ⟨_, rfl, .refl _⟩, rfl, trivial⟩ ⟨⟨rfl, rfl, _, rfl, .refl _⟩, trivial⟩)
          | false =>
            rw [hb] at hbad
            rw [if_pos (by rw [touB, hk, hb]; rfl)] at hstep
            have hA : (x :: xs).length + 1 ≤ 1048576 := by omega
            refine kS ?_;refine wc_seq ?_;refine wc_block ?_;refine sR ?_;refine rQ iA ?_;refine rQ iL ?_;refine rN ?_;refine rW ?_;refine nR ?_;refine rC ?_;refine rQ iB ?_
            iterate 2 refine rC ?_
            refine rO ?_;refine rQ iM ?_;refine rO ?_;refine rC ?_;refine rO ?_;refine rQ (call_r hbad rfl rfl (arg_e (arg_e arg_nil)) (.inl rfl) (fun _ => rfl)) ?_;refine rO ?_
            refine rC ?_;refine rQ iT ?_;refine nS ?_;refine wV ?_;refine wc_region ?_;iterate 2 refine rC ?_
            refine rQ iB ?_;refine reg_new (build_slice (s := 1) tab_ok rfl rfl rfl rfl rfl rfl rfl rfl) rfl ?_;refine reg_new2 (append_one (xs := x :: xs) (s := 1) (enc := i6) tab_ok o.index rfl rfl rfl rfl rfl rfl rfl rfl rfl hA rfl) rfl ?_
            refine rC ?_;refine reg_nil ?_;refine blk_n ?_;refine seq_n ?_;refine wc_region ?_;refine rQ iD ?_;refine rC ?_;refine reg_nil ?_
            exact loop_n (x :: (xs ++ [o.index]), j + 1) [(65, some 216)] ⟨hjl, hstep.symm⟩ (by show p.length - (j + 1) < p.length - j; omega) (.of rfl rfl rfl rfl rfl ⟨⟨_, rfl, .refl _⟩, rfl, ⟨_, rfl, .refl _⟩, rfl, ⟨_, rfl, .refl _⟩, rfl, ⟨_, rfl, .refl _⟩, rfl, ⟨_, rfl, .refl _⟩, rfl, ⟨_, rfl, .refl _⟩, rfl, ⟨_, rfl, AVLe.of_eq (by show AV.own 216 0 (xs.length + 1 + 1) 1 none = AV.own 216 0 ((xs ++ [o.index]).length + 1) 1 none; rw [List.length_append]; rfl)⟩, rfl, ⟨_, rfl, .refl _⟩, rfl, trivial⟩ ⟨⟨rfl, rfl, _, rfl, .refl _⟩, trivial⟩)
        · have he : j = p.length := by have := of_decide_eq_false h4; omega
          subst he
          clear h4
          refine wc_exit ?_;refine seq_x ?_;refine loop_x ?_;refine blk_x ?_;refine blk_n ?_;refine seq_n ?_;refine wc_region ?_;refine rQ iD ?_;refine rC ?_;refine reg_nil ?_
          rw [preO_end hp] at hacc
          exact loop_n ((x :: xs), i + 1) [] ⟨hlt, hacc⟩ (by show l.length - (i + 1) < l.length - i; omega) (.of rfl rfl rfl rfl rfl ⟨⟨_, rfl, .refl _⟩, rfl, ⟨_, rfl, .refl _⟩, rfl, ⟨_, rfl, .refl _⟩, rfl, ⟨_, rfl, .refl _⟩, rfl, ⟨_, rfl, .refl _⟩, rfl, trivial⟩ ⟨⟨rfl, rfl, _, rfl, .refl _⟩, trivial⟩)
    · have he : i = l.length := by have := of_decide_eq_false h3; omega
      subst he
      rw [List.take_length] at hacc
      rw [← touL_sort, ← hacc]
      clear h3
      have e0 : Lib.compact (sortI []) = [] := List.eq_nil_of_length_eq_zero (by have := compact_len (sortI []); rw [sort_len] at this; simpa using this)
      rw [e0]
      refine wc_exit ?_;refine seq_x ?_;refine loop_x ?_;refine blk_x ?_;refine seq_n ?_;refine sR ?_;refine rC ?_;refine rQ (call_r sort_nil rfl rfl (arg_e arg_nil) (.inl rfl) (fun _ => rfl)) ?_
      refine nR ?_;refine rC ?_;refine rQ (call_r compact_nil rfl rfl (arg_e arg_nil) (.inl rfl) (fun _ => rfl)) ?_;refine rQ (call_r clonei_nil rfl rfl (arg_e arg_nil) (.inl rfl) (fun _ => rfl)) ?_
      refine rQ (call_r clipi_nil rfl rfl (arg_e arg_nil) (.inl rfl) (fun _ => rfl)) ?_;refine rC ?_;refine nS ?_;refine wc_ret ?_
      exact ⟨trivial, [], lf⟩
  | cons x xs =>
    refine wc_of ?_;refine sR ?_;refine rC ?_;refine nQ ?_
    refine wc_cond rfl (fun h3 => ?_) (fun h3 => ?_)
    · have hlt : i < l.length := by have := of_decide_eq_true h3; omega
      clear h3
      obtain ⟨p, hp⟩ : ∃ p, l[i]? = some p := ⟨_, List.getElem?_eq_getElem hlt⟩
      have hp' : l[((i : Int)).toNat]? = some p := by rw [Int.toNat_natCast]; exact hp
      have hfm := flat_mem_le hp
      rw [← preO_zero l i p] at hacc
      refine kS ?_;refine wc_seq ?_;refine wc_block ?_;refine sR ?_;refine rQ iA ?_;refine rQ iL ?_;refine rC ?_;refine nR ?_;refine rC ?_;refine rQ iE ?_;refine rC ?_
      refine nS ?_;refine wc_block ?_
      refine wc_inv (tS2 l b i p) (fun a => a.2 ≤ p.length ∧ a.1 = idxL b (preO l i p a.2)) (fun a => p.length - a.2) ((x :: xs), 0) [] ⟨Nat.zero_le _, hacc⟩
        (.of rfl rfl rfl rfl rfl ⟨⟨_, rfl, .refl _⟩, rfl, ⟨_, rfl, .refl _⟩, rfl, ⟨_, rfl, .refl _⟩, rfl, ⟨_, rfl, .refl _⟩, rfl, ⟨_, rfl, .refl _⟩, rfl, ⟨_, rfl, .refl _⟩, rfl, ⟨_, rfl, .refl _⟩, rfl, ⟨_, rfl, .refl _⟩, rfl, trivial⟩ ⟨⟨rfl, rfl, _, rfl, .refl _⟩, trivial⟩) ?_
      rintro ⟨acc, j⟩ ⟨hj, hacc⟩
      simp only at hj hacc
      cases acc with
      | nil =>
        refine wc_of ?_;refine sR ?_;refine rC ?_;refine nQ ?_
        refine wc_cond rfl (fun h4 => ?_) (fun h4 => ?_)
        · have hjl : j < p.length := by have := of_decide_eq_true h4; omega
          clear h4
          obtain ⟨o, ho⟩ : ∃ o, p[j]? = some o := ⟨_, List.getElem?_eq_getElem hjl⟩
          have ho' : p[((j : Int)).toNat]? = some o := by rw [Int.toNat_natCast]; exact ho
          have hgo := preO_go (l := l) (i := i) ho
          have hle := preO_le (j := j) hp
          have hstep : idxL b (preO l i p (j + 1)) = if touB b o = true then idxL b (preO l i p j) ++ [o.index] else idxL b (preO l i p j) := by rw [hgo, idxL_snoc]
          have hil := idxL_len b (preO l i p j)
          rw [← hacc] at hstep hil
          have hbad := bad_is o b
          by_cases k3 : o.kind = 3
          · have hk : (!decide (o.kind = 3)) = false := by rw [decide_eq_true k3]; rfl
            rw [if_neg (by rw [touB, hk, Bool.false_and]; decide)] at hstep
            refine kS ?_;refine wc_seq ?_;refine wc_block ?_;refine sR ?_;refine rQ iA ?_;refine rQ iL ?_;refine rN ?_;refine rW ?_;refine nR ?_;refine rC ?_;refine rQ iB ?_
            iterate 2 refine rC ?_
            iterate 4 refine rS ?_
            refine rQ iF ?_;refine nS ?_;refine wG ?_;refine wc_skip ?_;refine blk_n ?_;refine seq_n ?_;refine wc_region ?_;refine rQ iD ?_;refine rC ?_;refine reg_nil ?_
            exact loop_n (([] : List Int), j + 1) [] ⟨hjl, hstep.symm⟩ (by show p.length - (j + 1) < p.length - j; omega) (.of rfl rfl rfl rfl rfl ⟨⟨_, rfl, .refl _⟩, rfl, ⟨_, rfl, .refl _⟩, rfl, ⟨_, rfl, .refl _⟩, rfl, ⟨_, rfl, .refl _⟩, rfl, ⟨_, rfl, .refl _⟩, rfl, ⟨_, rfl, .refl _⟩, rfl, ⟨_, rfl, .refl _⟩, rfl, ⟨_, rfl, .refl _⟩, rfl, trivial⟩ trivial)
          have hk : (!decide (o.kind = 3)) = true := by rw [decide_eq_false k3]; rfl
          cases hb : badO o b with
          | true =>
            rw [hb] at hbad
            rw [if_neg (by rw [touB, hk, hb]; decide)] at hstep
            refine kS ?_;refine wc_seq ?_;refine wc_block ?_;refine sR ?_;refine rQ iA ?_;refine rQ iL ?_;refine rN ?_;refine rW ?_;refine nR ?_;refine rC ?_;refine rQ iB ?_
            iterate 2 refine rC ?_
            refine rO ?_;refine rQ iM ?_;refine rO ?_;refine rC ?_;refine rO ?_;refine rQ (call_r hbad rfl rfl (arg_e (arg_e arg_nil)) (.inl rfl) (fun _ => rfl)) ?_;refine rO ?_
            refine rC ?_;refine rQ iT ?_;refine nS ?_;refine wG ?_;refine wc_skip ?_;refine blk_n ?_;refine seq_n ?_;refine wc_region ?_;refine rQ iD ?_;refine rC ?_;refine reg_nil ?_
            exact loop_n (([] : List Int), j + 1) [] ⟨hjl, hstep.symm⟩ (by show p.length - (j + 1) < p.length - j; omega) (.of rfl rfl rfl rfl rfl ⟨⟨_, rfl, .refl _⟩, rfl, ⟨_, rfl, .refl _⟩, rfl, ⟨_, rfl, .refl _⟩, rfl, ⟨_, rfl, .refl _⟩, rfl, ⟨_, rfl, .refl _⟩, rfl, ⟨_, rfl, .refl _⟩, rfl, ⟨_, rfl, .refl _⟩, rfl, ⟨_, rfl, .refl _⟩, rfl, trivial⟩ trivial)
          | false =>
            rw [hb] at hbad
            rw [if_pos (by rw [touB, hk, hb]; rfl)] at hstep
            have hA : ([] : List Int).length + 1 ≤ 1048576 := by omega
            refine kS ?_;refine wc_seq ?_;refine wc_block ?_;refine sR ?_;refine rQ iA ?_;refine rQ iL ?_;refine rN ?_;refine rW ?_;refine nR ?_;refine rC ?_;refine rQ iB ?_
            iterate 2 refine rC ?_
            refine rO ?_;refine rQ iM ?_;refine rO ?_;refine rC ?_;refine rO ?_;refine rQ (call_r hbad rfl rfl (arg_e (arg_e arg_nil)) (.inl rfl) (fun _ => rfl)) ?_;refine rO ?_
            refine rC ?_;refine rQ iT ?_;refine nS ?_;refine wV ?_;refine wc_region ?_;iterate 2 refine rC ?_
            refine rQ iB ?_;refine reg_new (build_slice (s := 1) tab_ok rfl rfl rfl rfl rfl rfl rfl rfl) rfl ?_;refine reg_new (append_nil_one (s := 1) (enc := i6) tab_ok o.index rfl rfl rfl rfl rfl rfl rfl rfl) rfl ?_
            refine rC ?_;refine reg_nil ?_;refine blk_n ?_;refine seq_n ?_;refine wc_region ?_;refine rQ iD ?_;refine rC ?_;refine reg_nil ?_
            exact loop_n ([o.index], j + 1) [(65, some 216)] ⟨hjl, hstep.symm⟩ (by show p.length - (j + 1) < p.length - j; omega) (.of rfl rfl rfl rfl rfl ⟨⟨_, rfl, .refl _⟩, rfl, ⟨_, rfl, .refl _⟩, rfl, ⟨_, rfl, .refl _⟩, rfl, ⟨_, rfl, .refl _⟩, rfl, ⟨_, rfl, .refl _⟩, rfl, ⟨_, rfl, .refl _⟩, rfl, ⟨_, rfl, .refl _⟩, rfl, ⟨_, rfl, .refl _⟩, rfl, trivial⟩ ⟨⟨rfl, rfl, _, rfl, .refl _⟩, trivial⟩)
        · have he : j = p.length := by have := of_decide_eq_false h4; omega
          subst he
          clear h4
          refine wc_exit ?_;refine seq_x ?_;refine loop_x ?_;refine blk_x ?_;refine blk_n ?_;refine seq_n ?_;refine wc_region ?_;refine rQ iD ?_;refine rC ?_;refine reg_nil ?_
          rw [preO_end hp] at hacc
          exact loop_n (([] : List Int), i + 1) [] ⟨hlt, hacc⟩ (by show l.length - (i + 1) < l.length - i; omega) (.of rfl rfl rfl rfl rfl ⟨⟨_, rfl, .refl _⟩, rfl, ⟨_, rfl, .refl _⟩, rfl, ⟨_, rfl, .refl _⟩, rfl, ⟨_, rfl, .refl _⟩, rfl, ⟨_, rfl, .refl _⟩, rfl, trivial⟩ trivial)
      | cons x xs =>
        refine wc_of ?_;refine sR ?_;refine rC ?_;refine nQ ?_
        refine wc_cond rfl (fun h4 => ?_) (fun h4 => ?_)
        · have hjl : j < p.length := by have := of_decide_eq_true h4; omega
          clear h4
          obtain ⟨o, ho⟩ : ∃ o, p[j]? = some o := ⟨_, List.getElem?_eq_getElem hjl⟩
          have ho' : p[((j : Int)).toNat]? = some o := by rw [Int.toNat_natCast]; exact ho
          have hgo := preO_go (l := l) (i := i) ho
          have hle := preO_le (j := j) hp
          have hstep : idxL b (preO l i p (j + 1)) = if touB b o = true then idxL b (preO l i p j) ++ [o.index] else idxL b (preO l i p j) := by rw [hgo, idxL_snoc]
          have hil := idxL_len b (preO l i p j)
          rw [← hacc] at hstep hil
          have hbad := bad_is o b
          by_cases k3 : o.kind = 3
          · have hk : (!decide (o.kind = 3)) = false := by rw [decide_eq_true k3]; rfl
            rw [if_neg (by rw [touB, hk, Bool.false_and]; decide)] at hstep
            refine kS ?_;refine wc_seq ?_;refine wc_block ?_;refine sR ?_;refine rQ iA ?_;refine rQ iL ?_;refine rN ?_;refine rW ?_;refine nR ?_;refine rC ?_;refine rQ iB ?_
            iterate 2 refine rC ?_
            iterate 4 refine rS ?_
            refine rQ iF ?_;refine nS ?_;refine wG ?_;refine wc_skip ?_;refine blk_n ?_;refine seq_n ?_;refine wc_region ?_;refine rQ iD ?_;refine rC ?_;refine reg_nil ?_
            exact loop_n ((x :: xs), j + 1) [] ⟨hjl, hstep.symm⟩ (by show p.length - (j + 1) < p.length - j; omega) (.of rfl rfl rfl rfl rfl ⟨⟨_, rfl, .refl _⟩, rfl, ⟨_, rfl, .refl _⟩, rfl, ⟨_, rfl, .refl _⟩, rfl, ⟨_, rfl, .refl _⟩, rfl, ⟨_, rfl, .refl _⟩, rfl, ⟨_, rfl, .refl _⟩, rfl, ⟨_, rfl, .refl _⟩, rfl, ⟨_, rfl, .refl _⟩, rfl, trivial⟩ ⟨⟨rfl, rfl, _, rfl, .refl _⟩, trivial⟩)
          have hk : (!decide (o.kind = 3)) = true := by rw [decide_eq_false k3]; rfl
          cases hb : badO o b with
          | true =>
            rw [hb] at hbad
            rw [if_neg (by rw [touB, hk, hb]; decide)] at hstep
            refine kS ?_;refine wc_seq ?_;refine wc_block ?_;refine sR ?_;refine rQ iA ?_;refine rQ iL ?_;refine rN ?_;refine rW ?_;refine nR ?_;refine rC ?_;refine rQ iB ?_
            iterate 2 refine rC ?_
            refine rO ?_;refine rQ iM ?_;refine rO ?_;refine rC ?_;refine rO ?_;refine rQ (call_r hbad rfl rfl (arg_e (arg_e arg_nil)) (.inl rfl) (fun _ => rfl)) ?_;refine rO ?_
            refine rC ?_;refine rQ iT ?_;refine nS ?_;refine wG ?_;refine wc_skip ?_;refine blk_n ?_;refine seq_n ?_;refine wc_region ?_;refine rQ iD ?_;refine rC ?_;refine reg_nil ?_
            exact loop_n ((x :: xs), j + 1) [] ⟨hjl, hstep.symm⟩ (by show p.length - (j + 1) < p.length - j; omega) (.of rfl rfl rfl rfl rfl ⟨⟨_, rfl, .refl _⟩, rfl, ⟨_, rfl, .refl _⟩, rfl, ⟨_, rfl, .refl _⟩, rfl, ⟨_, rfl, .refl _⟩, rfl, ⟨_, rfl, .refl _⟩, rfl, ⟨_, rfl, .refl _⟩, rfl, ⟨_, rfl, .refl _⟩, rfl, ⟨_, rfl, .refl _⟩, rfl, trivial⟩ ⟨⟨rfl, rfl, _, rfl, .refl _⟩, trivial⟩)
          | false =>
            rw [hb] at hbad
            rw [if_pos (by rw [touB, hk, hb]; rfl)] at hstep
            have hA : (x :: xs).length + 1 ≤ 1048576 := by omega
            refine kS ?_;refine wc_seq ?_;refine wc_block ?_;refine sR ?_;refine rQ iA ?_;refine rQ iL ?_;refine rN ?_;refine rW ?_;refine nR ?_;refine rC ?_;refine rQ iB ?_
            iterate 2 refine rC ?_
            refine rO ?_;refine rQ iM ?_;refine rO ?_;refine rC ?_;refine rO ?_;refine rQ (call_r hbad rfl rfl (arg_e (arg_e arg_nil)) (.inl rfl) (fun _ => rfl)) ?_;refine rO ?_
            refine rC ?_;refine rQ iT ?_;refine nS ?_;refine wV ?_;refine wc_region ?_;iterate 2 refine rC ?_
            refine rQ iB ?_;refine reg_new (build_slice (s := 1) tab_ok rfl rfl rfl rfl rfl rfl rfl rfl) rfl ?_;refine reg_new2 (append_one (xs := x :: xs) (s := 1) (enc := i6) tab_ok o.index rfl rfl rfl rfl rfl rfl rfl rfl rfl hA rfl) rfl ?_
            refine rC ?_;refine reg_nil ?_;refine blk_n ?_;refine seq_n ?_;refine wc_region ?_;refine rQ iD ?_;refine rC ?_;refine reg_nil ?_
            exact loop_n (x :: (xs ++ [o.index]), j + 1) [(65, some 216)] ⟨hjl, hstep.symm⟩ (by show p.length - (j + 1) < p.length - j; omega) (.of rfl rfl rfl rfl rfl ⟨⟨_, rfl, .refl _⟩, rfl, ⟨_, rfl, .refl _⟩, rfl, ⟨_, rfl, .refl _⟩, rfl, ⟨_, rfl, .refl _⟩, rfl, ⟨_, rfl, .refl _⟩, rfl, ⟨_, rfl, .refl _⟩, rfl, ⟨_, rfl, AVLe.of_eq (by show AV.own 216 0 (xs.length + 1 + 1) 1 none = AV.own 216 0 ((xs ++ [o.index]).length + 1) 1 none; rw [List.length_append]; rfl)⟩, rfl, ⟨_, rfl, .refl _⟩, rfl, trivial⟩ ⟨⟨rfl, rfl, _, rfl, .refl _⟩, trivial⟩)
        · have he : j = p.length := by have := of_decide_eq_false h4; omega
          subst he
          clear h4
          refine wc_exit ?_;refine seq_x ?_;refine loop_x ?_;refine blk_x ?_;refine blk_n ?_;refine seq_n ?_;refine wc_region ?_;refine rQ iD ?_;refine rC ?_;refine reg_nil ?_
          rw [preO_end hp] at hacc
          exact loop_n ((x :: xs), i + 1) [] ⟨hlt, hacc⟩ (by show l.length - (i + 1) < l.length - i; omega) (.of rfl rfl rfl rfl rfl ⟨⟨_, rfl, .refl _⟩, rfl, ⟨_, rfl, .refl _⟩, rfl, ⟨_, rfl, .refl _⟩, rfl, ⟨_, rfl, .refl _⟩, rfl, ⟨_, rfl, .refl _⟩, rfl, trivial⟩ ⟨⟨rfl, rfl, _, rfl, .refl _⟩, trivial⟩)
    · have he : i = l.length := by have := of_decide_eq_false h3; omega
      subst he
      rw [List.take_length] at hacc
      rw [← touL_sort, ← hacc]
      clear h3
      have hil := idxL_len b l.flatten
      rw [← hacc] at hil
      have hsort := sort_is (x :: xs) (by simp) (by omega)
      have hsl : (sortI (x :: xs)).length = (x :: xs).length := sort_len _
      have hcomp := compact_is (sortI (x :: xs)) (by rw [hsl]; simp) (by rw [hsl]; omega)
      have hcl := compact_len (sortI (x :: xs))
      rw [hsl] at hcomp
      have hcp : 0 < (Lib.compact (sortI (x :: xs))).length := by
        have := ((csort (x :: xs)).2 x).2 (by simp)
        exact List.length_pos_of_mem this
      have hclone := clonei_is (Lib.compact (sortI (x :: xs))) hcp (by omega)
      refine wc_exit ?_;refine seq_x ?_;refine loop_x ?_;refine blk_x ?_;refine seq_n ?_;refine sR ?_;refine rC ?_;refine reg_new2 (call_h [(0, some 65)] hsort rfl rfl rfl (arg_give rfl rfl arg_nil) ⟨⟨rfl, rfl, _, _, rfl, rfl, .refl _⟩, trivial⟩ rfl rfl (.inl rfl) rfl rfl) rfl ?_
      refine nR ?_;refine rC ?_;refine reg_new (call_h [(0, some 65)] hcomp rfl rfl rfl (arg_give rfl rfl arg_nil) ⟨⟨rfl, rfl, _, _, rfl, rfl, .refl _⟩, trivial⟩ rfl rfl (.inl rfl) rfl rfl) rfl ?_
      refine rQ (call_r hclone rfl rfl (arg_e arg_nil) (.inl rfl) (fun _ => rfl)) ?_;refine rQ (call_r (clipi_is _) rfl rfl (arg_e arg_nil) (.inl rfl) (fun _ => rfl)) ?_
      refine rC ?_;refine nS ?_;refine wc_ret ?_
      exact ⟨trivial, [], lf⟩
end Go.Proofs.YtmojbghcngdkpaaGreatDoor

namespace Go.Proofs.YtmojbghcngdkpaaGreatDoor
open Go.Eng Go.Plain
set_option maxHeartbeats 4000000
set_option maxRecDepth 20000
attribute [local irreducible] WC RegS RegD SeqQ BlkQ ScoQ RegK CutK Sat SatN FnIs LoopQ StepIs OpIs
/-- An operation whose data is nil, or not. -/
def encV : Bool × POp → D
  | (true, o) => .cons (u8s o.kind) (.cons (i6 o.index) (.cons (.sc nil_) .nil))
  | (false, o) => encPOp o
theorem encV_size (x : Bool × POp) : (encV x).size = 3 := by obtain ⟨b, o⟩ := x; cases b <;> rfl
def VOk (x : Bool × POp) : Prop := x.1 = true → x.2.data = []
theorem encV_le {w : World} {X : Nat → Prop} {x : Bool × POp} (hx : VOk x) {cs : List Value} (h : Enc w X (encV x) cs) : Enc w X (encPOp x.2) cs := by
  obtain ⟨b, o⟩ := x
  cases b with
  | false => exact h
  | true =>
    have hd : o.data = [] := hx rfl
    obtain ⟨c1, r1, rfl, h1, c2, r2, rfl, h2, c3, r3, rfl, h3, h4⟩ := h
    exact ⟨c1, _, rfl, h1, c2, _, rfl, h2, c3, r3, rfl, .inl ⟨by rw [hd]; rfl, h3.1⟩, h4⟩
theorem dle_arr {α β : Type} {s : Nat} {enc : α → D} {enc' : β → D} {g : α → β} {xs : List α} {ys : List β} (hy : ys = xs.map g) (h : ∀ x ∈ xs, DLe (enc x) (enc' (g x))) : DLe (.arr s enc xs) (.arr s enc' ys) := by
  subst hy
  rintro w X cs (⟨rfl, rfl⟩ | ⟨a, c, rfl, h1, h2, f, hf⟩)
  · exact .inl ⟨rfl, rfl⟩
  · refine .inr ⟨a, c, by rw [List.length_map], by rw [List.length_map]; exact h1, h2, f, fun i hi => ?_⟩
    rw [List.length_map] at hi
    obtain ⟨g1, g2, g3⟩ := hf i hi
    refine ⟨?_, g2, g3⟩
    rw [List.getElem_map]
    exact h _ (List.getElem_mem _) _ _ _ g1
abbrev encPV (l : List (Bool × POp)) : D := .arr 3 encV l
theorem encPV_le {l : List (Bool × POp)} {p : List POp} (hp : p = l.map (·.2)) (hl : ∀ x ∈ l, VOk x) : DLe (encPV l) (encP p) := dle_arr hp fun x hx w X cs h => encV_le (hl x hx) h
theorem encPLV_le {l : List (List (Bool × POp))} {L : List (List POp)} (hp : L = l.map fun q => q.map (·.2)) (hl : ∀ q ∈ l, ∀ x ∈ q, VOk x) : DLe (.arr 1 encPV l) (encPL L) := dle_arr hp fun q hq => encPV_le rfl (hl q hq)
def pairV : List (List (Bool × POp)) := [[(true, ⟨1, 3, []⟩), (false, ⟨2, 1, [0, 255]⟩)], [(true, ⟨3, 0, []⟩)]]
def pairL : List (List POp) := [[⟨1, 3, []⟩, ⟨2, 1, [0, 255]⟩], [⟨3, 0, []⟩]]
theorem pairV_le : AVLe (.d (.arr 1 encPV pairV)) (.d (encPL pairL)) := AVLe.d (encPLV_le rfl (by
  intro q hq x hx
  simp only [pairV, List.mem_cons, List.not_mem_nil, or_false] at hq
  rcases hq with rfl | rfl <;> simp only [List.mem_cons, List.not_mem_nil, or_false] at hx
  · rcases hx with rfl | rfl
    · exact fun _ => rfl
    · exact fun h => by cases h
  · subst hx; exact fun _ => rfl)) rfl
abbrev vA : Bool × POp := (true, ⟨1, 3, []⟩)
abbrev vB : Bool × POp := (false, ⟨2, 1, [0, 255]⟩)
abbrev vC : Bool × POp := (true, ⟨3, 0, []⟩)
abbrev vAB : List (Bool × POp) := [vA, vB]
abbrev vC1 : List (Bool × POp) := [vC]
theorem pair_is : FnIs Tryz.prog 79 [] [] (.d (encPL pairL)) [] := by
  refine fnIs_of tab_ok Tryz.func79 rfl rfl rfl ?_;refine sR ?_;refine rC ?_;refine nR ?_;refine rQ iS ?_;refine reg_new (build_slice (s := 1) tab_ok rfl rfl rfl rfl rfl rfl rfl rfl) rfl ?_
  refine reg_freeze (env' := [(2, _), (1, _)]) (h' := []) 80 _ rfl ⟨⟨_, rfl, Frz.lits2 (enc := encU8) (0 : Int) (255 : Int) rfl rfl rfl rfl⟩, ⟨_, rfl, .refl _⟩, trivial⟩ trivial ?_
  refine rQ iS ?_;refine reg_new (build_slice (s := 3) tab_ok rfl rfl rfl rfl rfl rfl rfl rfl) rfl ?_;refine reg_freeze (env' := [(4, _)]) (h' := []) 96 _ rfl ⟨⟨_, rfl, Frz.lits2 (enc := encV) vA vB rfl rfl rfl rfl⟩, trivial⟩ trivial ?_
  refine rQ iS ?_;refine reg_new (build_slice (s := 3) tab_ok rfl rfl rfl rfl rfl rfl rfl rfl) rfl ?_;refine reg_freeze (env' := [(6, _), (4, _)]) (h' := []) 112 _ rfl ⟨⟨_, rfl, Frz.lits1 (enc := encV) vC rfl rfl⟩, ⟨_, rfl, .refl _⟩, trivial⟩ trivial ?_
  refine reg_new (build_slice (s := 1) tab_ok rfl rfl rfl rfl rfl rfl rfl rfl) rfl ?_;refine reg_freeze (env' := [(7, _)]) (h' := []) 120 _ rfl ⟨⟨_, rfl, Frz.lits2 (enc := encPV) vAB vC1 rfl rfl rfl rfl⟩, trivial⟩ trivial ?_
  refine rC ?_;refine nS ?_;refine wc_ret ?_
  exact ⟨trivial, [], .of rfl rfl rfl rfl rfl ⟨⟨_, rfl, pairV_le⟩, rfl, trivial⟩ trivial⟩
end Go.Proofs.YtmojbghcngdkpaaGreatDoor

namespace Go.Proofs.YtmojbghcngdkpaaGreatDoor
open Go.Eng Go.Plain
set_option maxHeartbeats 4000000
set_option maxRecDepth 20000
attribute [local irreducible] WC RegS RegD SeqQ BlkQ ScoQ RegK CutK Sat SatN FnIs LoopQ StepIs OpIs
structure PQ where
  kind : UInt8
  index : UInt8
  data : UInt8
def encQ (x : PQ) : D := .cons (u8s x.kind.toNat) (.cons (u8s x.index.toNat) (.cons (u8s x.data.toNat) .nil))
def qOf (x : PQ) : POp :=
  if x.kind.toNat % 9 < 4 then ⟨1, ((x.index.toNat % 22 : Nat) : Int) - 1, []⟩
  else if x.kind.toNat % 9 < 7 then ⟨2, ((x.index.toNat % 22 : Nat) : Int) - 1, List.replicate 32 x.data⟩
  else if x.kind.toNat % 9 = 8 then ⟨((x.data.toNat % 4 : Nat) : Int), (x.index.toNat : Int) - 100, List.replicate (x.index.toNat % 32) x.data⟩
  else ⟨3, 0, []⟩
def fillL (d : Int) (n i : Nat) : List Int := List.replicate i d ++ List.replicate (n - i) 0
end Go.Proofs.YtmojbghcngdkpaaGreatDoor

namespace Go.Proofs.YtmojbghcngdkpaaGreatDoor
open Go.Eng Go.Plain
set_option maxHeartbeats 4000000
set_option maxRecDepth 20000
attribute [local irreducible] WC RegS RegD SeqQ BlkQ ScoQ RegK CutK Sat SatN FnIs LoopQ StepIs OpIs
abbrev encQs (q : List PQ) : D := .arr 3 encQ q
def encPP (l : List (List PQ)) : D := .cons (.arr 1 encQs l) .nil
def opsOf (q : List PQ) : List POp := (q.take 3).map qOf
def pOf (l : List (List PQ)) : List (List POp) := (l.take 3).map opsOf
end Go.Proofs.YtmojbghcngdkpaaGreatDoor

namespace Go.Eng
open Go.RowKit
variable {P : Program} {op : Op} {env : Env} {h : Upds} {n : Nat} {av av' : AV} {row : Row}
theorem StepIs.frozen (hs : StepIs P op env h n (some av) [(n, some row)]) (hf : Frz n row av av') : StepIs P op env h n (some av') [] := by
  intro C G st σ w a o ho hA hd hst hn hb next Q hnext
  refine hs C G st σ w a o ho hA hd hst hn hb next Q fun x w' σ' G' hst' h1 h2 => ?_
  have hnr : ∀ q row', st.row q = some row' → q ≠ n := fun q row' hq e => by
    subst e
    exact hn q (Nat.le_refl _) (by omega) (hst.rowsG _ _ hq).1
  have hrow : (st.put o.dst (some av) [(n, some row)]).row n = some row := by
    simp [St.put, St.row, lk_cons]
  have hrow2 : ∀ q row', q ≠ n → st.row q = some row' → (st.put o.dst (some av) [(n, some row)]).row q = some row' := fun q row' hq hr => by
    simp only [St.put, St.row, List.cons_append, List.nil_append, lk_cons, if_neg (Ne.symm hq)]
    exact hr
  refine hnext x w' σ' G' (hst'.freeze (st' := st.put o.dst (some av') []) n row hrow (fun i v' hi => ?_) (fun q x' hq => ?_) rfl rfl) h1 h2
  · cases hdst : o.dst with
    | none =>
      simp only [St.put, hdst] at hi ⊢
      exact ⟨v', hi, .refl _⟩
    | some d =>
      simp only [St.put, hdst, lk_cons] at hi ⊢
      split at hi
      · rename_i e
        rw [if_pos e]
        simp only [Option.some.injEq] at hi
        exact ⟨av, rfl, by rw [← hi]; exact hf⟩
      · rename_i e
        rw [if_neg e]
        exact ⟨v', hi, .refl _⟩
  · have hq' : st.row q = some x' := hq
    exact ⟨hnr q x' hq', x', hrow2 q x' (hnr q x' hq') hq', .refl _⟩
end Go.Eng

namespace Go.Eng
open Go.RowKit
variable {P : Program} {T : Tab} {env : Env} {h : Upds} {n : Nat}
def offsA (e s : Nat) : Nat → List (Nat × Nat)
  | 0 => []
  | k + 1 => offsA e s k ++ [(k * s, e)]
theorem offsA_len (e s : Nat) : ∀ k, (offsA e s k).length = k
  | 0 => rfl
  | k + 1 => by rw [offsA, List.length_append, offsA_len e s k]; rfl
theorem offsA_get {e s : Nat} : ∀ (m k o t : Nat), (offsA e s m)[k]? = some (o, t) → t = e ∧ o = k * s
  | 0, k, o, t, h => by simp [offsA] at h
  | m + 1, k, o, t, h => by
    rw [offsA] at h
    rcases Nat.lt_or_ge k m with hk | hk
    · rw [List.getElem?_append_left (by rw [offsA_len]; exact hk)] at h
      exact offsA_get m k o t h
    · rw [List.getElem?_append_right (by rw [offsA_len]; exact hk), offsA_len] at h
      have : k - m = 0 := by
        rcases Nat.eq_zero_or_pos (k - m) with e | e
        · exact e
        · rw [List.getElem?_eq_none (by simp; omega)] at h; cases h
      rw [this] at h
      simp only [List.getElem?_cons_zero, Option.some.injEq, Prod.mk.injEq] at h
      have e : k = m := by omega
      subst e
      exact ⟨h.2.symm, h.1.symm⟩
/-- An array built of some parts. -/
theorem build_arr (hT : TabOk P T) {t e len : Nat} {r re : TyR} {parts : Array (Nat × Operand)} {q : AV} (ht : lk T t = some r) (hd : r.desc = .array len e) (he : lk T e = some re) (hq : buildF T (offsA e re.size len) (evalA env) parts.toList (.d r.zero) = some q) (hag : q.isAgg = true) :
    StepIs P (.build t parts) env h n (some q) [] := .of_comes fun C G st σ w a o ho hA hdst hst hn => by
  obtain ⟨u, hu, hdu⟩ := (hT t r ht).und
  rw [hd] at hdu
  cases hdu
  obtain ⟨z, hz, hzc⟩ := (hT t r ht).run_zero w
  have henc : Rel σ w (st.X C.X0 σ) (.d r.zero) false z.cells.toList := by rw [← hzc]; exact Enc.closed _ _ _ (hT t r ht).zero
  obtain ⟨cs', hfill, h1, h2, h3⟩ := buildF_sound hT hst hA (pl := fun k => some (k * re.size, re.size)) (fun k o t' r' ho hr' => by
    obtain ⟨rfl, rfl⟩ := offsA_get _ _ _ _ ho
    rw [he] at hr'
    cases hr'
    rfl) parts.toList (.d r.zero) q z.cells.toList hq rfl trivial henc
  refine .quiet (u := .agg cs'.toArray) hst hdst ⟨rfl, rfl⟩ ?_ (by unfold RelV; rw [if_pos hag]; exact ⟨cs', rfl, h1⟩) h3
  have hcs : z.cells.toList.toArray = z.cells := by simp
  have hpt : (parts.map fun x => (x.1, a.eval x.2)).toList = parts.toList.map fun x => (x.1, a.eval x.2) := by simp
  rw [hcs, ← hpt] at hfill
  have hb : (Instr.build t (parts.map fun x => (x.1, a.eval x.2))).run P w = .ok (.agg cs'.toArray) w := by
    simp only [Instr.build, Sem.run_bind, hz, Result.andThen_ok, run_underlying hu, (hT e re he).run_size, hfill, Sem.run_pure]
  simp only [execOp, ho, Sem.run_bind]
  rw [show (parts.map fun (x : Nat × Operand) => match x with | (i, x) => (i, a.eval x)) = parts.map fun x => (x.1, a.eval x.2) from rfl, hb]
  rfl
end Go.Eng

namespace Go.Proofs.YtmojbghcngdkpaaGreatDoor
open Go.Eng Go.Plain
def tx1 : List UInt8 := [99, 108, 105, 101, 110, 116, 10, 114, 101, 97, 100, 32, 51, 10, 119, 114, 105, 116, 101, 32, 49, 32, 48, 48, 102, 102, 10, 99, 108, 105, 101, 110, 116, 10, 102, 108, 117, 115, 104, 10]
def tx2 : List UInt8 := [99, 108, 105, 101, 110, 116, 10, 111, 112, 32, 51, 32, 55, 32, 45, 10, 119, 114, 105, 116, 101, 32, 48, 32, 45, 10, 111, 112, 32, 49, 32, 49, 32, 48, 97, 10]
def list2 : List (List POp) := [[⟨3, 7, []⟩, ⟨2, 0, []⟩, ⟨1, 1, [10]⟩]]
abbrev vD : Bool × POp := (true, ⟨3, 7, []⟩)
abbrev vE : Bool × POp := (true, ⟨2, 0, []⟩)
abbrev vF : Bool × POp := (false, ⟨1, 1, [10]⟩)
abbrev list2V : List (List (Bool × POp)) := [[vD, vE, vF]]
theorem text_pair : textP pairL = tx1 := by decide +kernel
theorem text_list2 : textP list2 = tx2 := by decide +kernel
def px0 : List UInt8 := [99, 108, 105, 101, 110, 116, 10, 114, 101, 97, 100, 32, 51]
def px1 : List UInt8 := [99, 108, 105, 101, 110, 116, 10, 111, 112, 32, 49, 32, 51, 32, 45, 10]
def px2 : List UInt8 := [114, 101, 97, 100, 32, 51, 10]
def px3 : List UInt8 := [99, 108, 105, 101, 110, 116, 10, 114, 101, 97, 100, 32, 48, 51, 10]
theorem parse_by {s : List UInt8} {x : List (List POp) × Nat × Int} (h : parseR (splitL s 10) 0 [] = x) : parseP s [] 1 = x := by
  rw [← h]
  exact (parse_same s.length s [] 0 (Nat.le_refl _) rfl).symm
theorem parse_px0 : parseP px0 [] 1 = ([], 2, 5) := parse_by (by decide +kernel)
theorem parse_px1 : parseP px1 [] 1 = ([], 2, 5) := parse_by (by decide +kernel)
theorem parse_px2 : parseP px2 [] 1 = ([], 1, 5) := parse_by (by decide +kernel)
theorem parse_px3 : parseP px3 [] 1 = ([], 2, 5) := parse_by (by decide +kernel)
def okB (o : POp) : Bool := decide (0 ≤ o.kind) && decide (o.kind ≤ 255) && decide (-9223372036854775808 ≤ o.index) && decide (o.index ≤ 9223372036854775807)
theorem okL_of {l : List (List POp)} (h : l.all (fun p => p.all okB) = true) : OkL l := fun p hp o ho => by
  have := List.all_eq_true.1 (List.all_eq_true.1 h p hp) o ho
  simp only [okB, Bool.and_eq_true, decide_eq_true_eq] at this
  exact ⟨⟨this.1.1.1, this.1.1.2⟩, this.1.2, this.2⟩
def trip : List (List POp) := pairL ++ [[⟨2, 1, List.replicate 32 0⟩]]
theorem tou_trip : touL 4 trip.flatten = [1, 3] := by decide +kernel
theorem tou_pair : touL 2 pairL.flatten = [] := by decide +kernel
end Go.Proofs.YtmojbghcngdkpaaGreatDoor

namespace Go.Proofs.YtmojbghcngdkpaaGreatDoor
open Go.Eng Go.Plain
set_option maxHeartbeats 4000000
set_option maxRecDepth 20000
attribute [local irreducible] WC RegS RegD SeqQ BlkQ ScoQ RegK CutK Sat SatN FnIs LoopQ StepIs OpIs
theorem pair_own : FnIs Tryz.prog 79 [] [] (.own 64 0 2 1 none) [(64, .ds 77 1 true encPV pairV)] := by
  refine fnIs_of tab_ok Tryz.func79 rfl rfl rfl ?_;refine sR ?_;refine rC ?_;refine nR ?_;refine rQ iS ?_;refine rQ (StepIs.frozen (build_slice (s := 1) tab_ok rfl rfl rfl rfl rfl rfl rfl rfl) (Frz.lits2 (enc := encU8) (0 : Int) (255 : Int) rfl rfl rfl rfl)) ?_
  refine rQ iS ?_;refine rQ (StepIs.frozen (build_slice (s := 3) tab_ok rfl rfl rfl rfl rfl rfl rfl rfl) (Frz.lits2 (enc := encV) vA vB rfl rfl rfl rfl)) ?_;refine rQ iS ?_
  refine rQ (StepIs.frozen (build_slice (s := 3) tab_ok rfl rfl rfl rfl rfl rfl rfl rfl) (Frz.lits1 (enc := encV) vC rfl rfl)) ?_;refine reg_new (build_slice (s := 1) tab_ok rfl rfl rfl rfl rfl rfl rfl rfl) rfl ?_
  refine rC ?_;refine nS ?_;refine wc_ret ?_
  exact ⟨trivial, [(64, some _)], .of rfl rfl rfl rfl rfl ⟨⟨_, rfl, AVLe.of_eq rfl⟩, rfl, trivial⟩ ⟨⟨rfl, rfl, _, rfl, RowLe.lits_ds (xs := pairV) (enc := encPV) (fun _ => rfl) rfl⟩, trivial⟩⟩
abbrev vW : Bool × POp := (false, ⟨2, 1, List.replicate 32 0⟩)
abbrev vW1 : List (Bool × POp) := [vW]
theorem touched_h : FnIs Tryz.prog 43 [.own 0 0 (pairV.length + 1) 1 none, .int .i64 4] [(0, .ds 77 1 false encPV (pairV ++ [vW1]))] (.d (.arx 1 i6 [1, 3])) [] := by
  have h := touched_is trip 4 (by decide) (by decide)
  rw [tou_trip] at h
  refine FnIs.freeze (avs' := [.d (.arr 1 encPV (pairV ++ [vW1])), .int .i64 4]) (h0' := []) 0 (.ds 77 1 false encPV (pairV ++ [vW1])) rfl ⟨⟨_, rfl, Frz.own rfl⟩, ⟨_, rfl, .refl _⟩, trivial⟩ trivial rfl ?_
  refine FnIs.args_le (avs' := [.d (encPL trip), .int .i64 4]) ⟨⟨AVLe.d (encPLV_le rfl ?_) rfl, fun _ _ => trivial⟩, ⟨AVLe.of_eq rfl, fun _ _ => trivial⟩, trivial⟩ h
  intro q hq x hx
  simp only [pairV, List.cons_append, List.nil_append, List.mem_cons, List.not_mem_nil, or_false] at hq
  rcases hq with rfl | rfl | rfl <;> simp only [List.mem_cons, List.not_mem_nil, or_false] at hx
  · rcases hx with rfl | rfl
    · exact fun _ => rfl
    · exact fun h => by cases h
  · subst hx; exact fun _ => rfl
  · subst hx; exact fun h => by cases h
theorem op_dle (k i : Int) : DLe (.cons (.sc (.int .u8 k)) (.cons (.sc (.int .i64 i)) (.cons (.sc nil_) .nil))) (encPOp ⟨k, i, []⟩) := fun w X cs h => encV_le (x := (true, ⟨k, i, []⟩)) (fun _ => rfl) h
theorem list2_dle : DLe (.arr 1 encPV list2V) (encPL list2) := encPLV_le rfl (by
  intro q hq x hx
  simp only [List.mem_cons, List.not_mem_nil, or_false] at hq
  subst hq
  simp only [List.mem_cons, List.not_mem_nil, or_false] at hx
  rcases hx with rfl | rfl | rfl
  · exact fun _ => rfl
  · exact fun _ => rfl
  · exact fun h => by cases h)
theorem parse_px {s : List UInt8} {n : Nat} (hs : s.length ≤ 1048576) (h : parseP s [] 1 = ([], n, 5)) : FnIs Tryz.prog 47 [.d (strD s)] [] (parR [] n 5) [] := by
  have := parse_is s hs
  rwa [h] at this
theorem lives_is : FnIs Tryz.prog 35 [] [] (.bool true) [] := by
  have htp := text_is pairL (bd_chk (by decide)) (okL_of (by decide))
  have htl := text_is list2 (bd_chk (by decide)) (okL_of (by decide))
  rw [show chkP pairL = 0 by decide, text_pair, if_pos rfl] at htp
  rw [show chkP list2 = 0 by decide, text_list2, if_pos rfl] at htl
  have e1 : (!decide (tx1 = tx1)) = false := by rw [decide_eq_true rfl]; rfl
  have e2 : (!decide (tx2 = tx2)) = false := by rw [decide_eq_true rfl]; rfl
  have hb1 := bad_is ⟨1, 3, []⟩ 4
  have hb2 := bad_is ⟨1, 4, []⟩ 4
  have hb3 := bad_is ⟨2, 0, List.replicate 31 0⟩ 4
  have hb4 := bad_is ⟨3, -1, []⟩ 4
  have hb5 := bad_is ⟨0, 0, []⟩ 4
  rw [show badO ⟨1, 3, []⟩ 4 = false by decide] at hb1
  rw [show badO ⟨1, 4, []⟩ 4 = true by decide] at hb2
  rw [show badO ⟨2, 0, List.replicate 31 0⟩ 4 = true by decide] at hb3
  rw [show badO ⟨3, -1, []⟩ 4 = false by decide] at hb4
  rw [show badO ⟨0, 0, []⟩ 4 = true by decide] at hb5
  have hcount := count_is pairL (by decide) (by decide)
  rw [show cK 1 pairL.flatten = 1 by decide, show cK 2 pairL.flatten = 1 by decide, show cK 3 pairL.flatten = 1 by decide, show cO pairL.flatten = 0 by decide] at hcount
  have htou := touched_is pairL 2 (by decide) (by decide)
  rw [tou_pair] at htou
  have h13a : ([1, 3] : List Int)[((0 : Int)).toNat]? = some 1 := rfl
  have h13b : ([1, 3] : List Int)[((1 : Int)).toNat]? = some 3 := rfl
  refine fnIs_of tab_ok Tryz.func35 rfl rfl rfl ?_;refine sR ?_;refine rC ?_;refine nR ?_;refine rQ (call_r pair_is rfl rfl arg_nil (.inl rfl) (fun _ => rfl)) ?_;refine rQ (call_r htp rfl rfl (arg_e arg_nil) (.inl rfl) (fun _ => rfl)) ?_
  iterate 5 refine rC ?_
  refine nR ?_;iterate 2 refine rQ iS ?_
  refine rQ (StepIs.frozen (build_slice (s := 1) tab_ok rfl rfl rfl rfl rfl rfl rfl rfl) (Frz.lits1 (enc := encU8) (10 : Int) rfl rfl)) ?_;refine rQ iS ?_;refine rQ (StepIs.frozen (build_slice (s := 3) tab_ok rfl rfl rfl rfl rfl rfl rfl rfl) (Frz.litsN (enc := encV) [vD, vE, vF] rfl (fun x _ => encV_size x))) ?_
  refine rQ (StepIs.frozen (build_slice (s := 1) tab_ok rfl rfl rfl rfl rfl rfl rfl rfl) (Frz.lits1 (enc := encPV) [vD, vE, vF] rfl rfl)) ?_;refine rQ (call_r htl rfl rfl (arg_d rfl trivial list2_dle arg_nil) (.inl rfl) (fun _ => rfl)) ?_
  iterate 5 refine rC ?_
  refine nQ ?_;refine sR ?_;iterate 3 refine rC ?_
  refine rP ?_;refine rC ?_;refine rP ?_;refine rC ?_;refine rQ iG ?_;refine rC ?_;refine rP ?_;refine rC ?_;refine rP ?_;refine rQ (neq_s (a := tx1) (b := tx1) tab_ok rfl rfl rfl) ?_
  refine rQ iG ?_;refine rC ?_;refine rP ?_;refine rC ?_;refine rP ?_;refine rQ (neq_s (a := tx2) (b := tx2) tab_ok rfl rfl rfl) ?_;refine rQ iG ?_;refine nS ?_;refine wG ?_
  refine kS ?_;refine qR ?_;refine rQ iS ?_;refine rQ (call_r hb1 rfl rfl (arg_d rfl trivial (op_dle 1 3) (arg_e arg_nil)) (.inl rfl) (fun _ => rfl)) ?_;refine rC ?_
  refine rP ?_;refine rQ iS ?_;refine rP ?_;refine rQ (call_r hb2 rfl rfl (arg_d rfl trivial (op_dle 1 4) (arg_e arg_nil)) (.inl rfl) (fun _ => rfl)) ?_;refine rP ?_
  refine rC ?_;refine rQ iG ?_;refine rC ?_;refine rP ?_;refine rQ (StepIs.frozen (make_full (enc := encU8) (s := 1) (N := 31) tab_ok (0 : Int) rfl rfl rfl rfl rfl rfl rfl (by decide) rfl) (Frz.own rfl)) ?_
  refine rP ?_;refine rQ iS ?_;refine rP ?_;refine rQ (call_r hb3 rfl rfl (arg_e (arg_e arg_nil)) (.inl rfl) (fun _ => rfl)) ?_;refine rP ?_;refine rC ?_;refine rQ iG ?_
  refine rC ?_;refine rP ?_;refine rQ iS ?_;refine rP ?_;refine rQ (call_r hb4 rfl rfl (arg_d rfl trivial (op_dle 3 (-1)) (arg_e arg_nil)) (.inl rfl) (fun _ => rfl)) ?_
  refine rQ iG ?_;refine rC ?_;refine rP ?_;refine rQ iS ?_;refine rP ?_;refine rQ (call_r hb5 rfl rfl (arg_d rfl trivial (op_dle 0 0) (arg_e arg_nil)) (.inl rfl) (fun _ => rfl)) ?_
  refine rP ?_;refine rC ?_;refine rQ iG ?_;refine nS ?_;refine wG ?_;refine kS ?_;refine qR ?_;refine rQ (StepIs.frozen (build_slice (s := 1) tab_ok rfl rfl rfl rfl rfl rfl rfl rfl) (Frz.litsN (enc := strD) [px0, px1, px2, px3] rfl (fun _ _ => rfl))) ?_
  refine rQ iE ?_;refine rC ?_;refine nS ?_;refine wc_block ?_
  refine wc_inv (fun i : Nat => ⟨[(68, .int .i64 i), (67, .int .i64 4), (66, .d (.arr 1 strD [px0, px1, px2, px3]))], [], 72, Tryz.f35.ntmps, 64⟩) (fun i => i ≤ 4) (fun i => 4 - i) 0 [] (Nat.zero_le _)
    (.of rfl rfl rfl rfl rfl ⟨⟨_, rfl, .refl _⟩, rfl, ⟨_, rfl, .refl _⟩, rfl, ⟨_, rfl, .refl _⟩, rfl, trivial⟩ trivial) ?_
  intro i hi
  clear htp htl e1 e2 hb1 hb2 hb3 hb4 hb5
  match i, hi with
  | 0, _ =>
    have hgx : [px0, px1, px2, px3][(((0 : Nat) : Int)).toNat]? = some px0 := rfl
    have hpx := parse_px (by decide) parse_px0
    refine wc_of ?_;refine sR ?_;refine rC ?_;refine nQ ?_;refine wV ?_;refine kS ?_;refine wc_seq ?_;refine wc_block ?_;refine sR ?_;refine rC ?_;refine rQ (index_arr tab_ok rfl rfl rfl rfl rfl (by omega) hgx) ?_
    refine rQ iL ?_;iterate 2 refine rC ?_
    refine nR ?_;refine rC ?_;refine rQ (call_r hpx rfl rfl (arg_e arg_nil) (.inl rfl) (fun _ => rfl)) ?_;iterate 7 refine rC ?_
    refine nR ?_;iterate 3 refine rC ?_
    refine rP ?_;refine rC ?_;refine rP ?_;refine rQ (build_arr tab_ok rfl rfl rfl rfl rfl) ?_;refine rP ?_;refine rC ?_;refine rP ?_;refine rQ (step_C tab_ok (fun K hk => ⟨by decide, by decide, _, rfl, hk⟩)) ?_
    refine rP ?_;refine rC ?_;refine rQ iG ?_;refine rC ?_;refine rP ?_;refine rC ?_;refine rP ?_;refine rQ (len_arx tab_ok rfl rfl) ?_;refine rP ?_;refine rC ?_;refine rQ iG ?_
    refine nS ?_;refine wG ?_;refine wc_skip ?_;refine blk_n ?_;refine seq_n ?_;refine wc_region ?_;refine rQ iD ?_;refine rC ?_;refine reg_nil ?_
    exact loop_n 1 [] (by decide) (by decide) (.of rfl rfl rfl rfl rfl ⟨⟨_, rfl, .refl _⟩, rfl, ⟨_, rfl, .refl _⟩, rfl, ⟨_, rfl, .refl _⟩, rfl, trivial⟩ trivial)
  | 1, _ =>
    have hgx : [px0, px1, px2, px3][(((1 : Nat) : Int)).toNat]? = some px1 := rfl
    have hpx := parse_px (by decide) parse_px1
    refine wc_of ?_;refine sR ?_;refine rC ?_;refine nQ ?_;refine wV ?_;refine kS ?_;refine wc_seq ?_;refine wc_block ?_;refine sR ?_;refine rC ?_;refine rQ (index_arr tab_ok rfl rfl rfl rfl rfl (by omega) hgx) ?_
    refine rQ iL ?_;iterate 2 refine rC ?_
    refine nR ?_;refine rC ?_;refine rQ (call_r hpx rfl rfl (arg_e arg_nil) (.inl rfl) (fun _ => rfl)) ?_;iterate 7 refine rC ?_
    refine nR ?_;iterate 3 refine rC ?_
    refine rP ?_;refine rC ?_;refine rP ?_;refine rQ (build_arr tab_ok rfl rfl rfl rfl rfl) ?_;refine rP ?_;refine rC ?_;refine rP ?_;refine rQ (step_C tab_ok (fun K hk => ⟨by decide, by decide, _, rfl, hk⟩)) ?_
    refine rP ?_;refine rC ?_;refine rQ iG ?_;refine rC ?_;refine rP ?_;refine rC ?_;refine rP ?_;refine rQ (len_arx tab_ok rfl rfl) ?_;refine rP ?_;refine rC ?_;refine rQ iG ?_
    refine nS ?_;refine wG ?_;refine wc_skip ?_;refine blk_n ?_;refine seq_n ?_;refine wc_region ?_;refine rQ iD ?_;refine rC ?_;refine reg_nil ?_
    exact loop_n 2 [] (by decide) (by decide) (.of rfl rfl rfl rfl rfl ⟨⟨_, rfl, .refl _⟩, rfl, ⟨_, rfl, .refl _⟩, rfl, ⟨_, rfl, .refl _⟩, rfl, trivial⟩ trivial)
  | 2, _ =>
    have hgx : [px0, px1, px2, px3][(((2 : Nat) : Int)).toNat]? = some px2 := rfl
    have hpx := parse_px (by decide) parse_px2
    refine wc_of ?_;refine sR ?_;refine rC ?_;refine nQ ?_;refine wV ?_;refine kS ?_;refine wc_seq ?_;refine wc_block ?_;refine sR ?_;refine rC ?_;refine rQ (index_arr tab_ok rfl rfl rfl rfl rfl (by omega) hgx) ?_
    refine rQ iL ?_;iterate 2 refine rC ?_
    refine nR ?_;refine rC ?_;refine rQ (call_r hpx rfl rfl (arg_e arg_nil) (.inl rfl) (fun _ => rfl)) ?_;iterate 7 refine rC ?_
    refine nR ?_;iterate 3 refine rC ?_
    refine rP ?_;refine rC ?_;refine rP ?_;refine rQ (build_arr tab_ok rfl rfl rfl rfl rfl) ?_;refine rP ?_;refine rC ?_;refine rP ?_;refine rQ (step_C tab_ok (fun K hk => ⟨by decide, by decide, _, rfl, hk⟩)) ?_
    refine rP ?_;refine rC ?_;refine rQ iG ?_;refine rC ?_;refine rP ?_;refine rC ?_;refine rP ?_;refine rQ (len_arx tab_ok rfl rfl) ?_;refine rP ?_;refine rC ?_;refine rQ iG ?_
    refine nS ?_;refine wG ?_;refine wc_skip ?_;refine blk_n ?_;refine seq_n ?_;refine wc_region ?_;refine rQ iD ?_;refine rC ?_;refine reg_nil ?_
    exact loop_n 3 [] (by decide) (by decide) (.of rfl rfl rfl rfl rfl ⟨⟨_, rfl, .refl _⟩, rfl, ⟨_, rfl, .refl _⟩, rfl, ⟨_, rfl, .refl _⟩, rfl, trivial⟩ trivial)
  | 3, _ =>
    have hgx : [px0, px1, px2, px3][(((3 : Nat) : Int)).toNat]? = some px3 := rfl
    have hpx := parse_px (by decide) parse_px3
    refine wc_of ?_;refine sR ?_;refine rC ?_;refine nQ ?_;refine wV ?_;refine kS ?_;refine wc_seq ?_;refine wc_block ?_;refine sR ?_;refine rC ?_;refine rQ (index_arr tab_ok rfl rfl rfl rfl rfl (by omega) hgx) ?_
    refine rQ iL ?_;iterate 2 refine rC ?_
    refine nR ?_;refine rC ?_;refine rQ (call_r hpx rfl rfl (arg_e arg_nil) (.inl rfl) (fun _ => rfl)) ?_;iterate 7 refine rC ?_
    refine nR ?_;iterate 3 refine rC ?_
    refine rP ?_;refine rC ?_;refine rP ?_;refine rQ (build_arr tab_ok rfl rfl rfl rfl rfl) ?_;refine rP ?_;refine rC ?_;refine rP ?_;refine rQ (step_C tab_ok (fun K hk => ⟨by decide, by decide, _, rfl, hk⟩)) ?_
    refine rP ?_;refine rC ?_;refine rQ iG ?_;refine rC ?_;refine rP ?_;refine rC ?_;refine rP ?_;refine rQ (len_arx tab_ok rfl rfl) ?_;refine rP ?_;refine rC ?_;refine rQ iG ?_
    refine nS ?_;refine wG ?_;refine wc_skip ?_;refine blk_n ?_;refine seq_n ?_;refine wc_region ?_;refine rQ iD ?_;refine rC ?_;refine reg_nil ?_
    exact loop_n 4 [] (by decide) (by decide) (.of rfl rfl rfl rfl rfl ⟨⟨_, rfl, .refl _⟩, rfl, ⟨_, rfl, .refl _⟩, rfl, ⟨_, rfl, .refl _⟩, rfl, trivial⟩ trivial)
  | 4, _ =>
    refine wc_of ?_;refine sR ?_;refine rC ?_;refine nQ ?_;refine wG ?_;refine wc_exit ?_;refine seq_x ?_;refine loop_x ?_;refine blk_x ?_;refine seq_n ?_;refine sR ?_
    refine rQ (call_r pair_is rfl rfl arg_nil (.inl rfl) (fun _ => rfl)) ?_;refine rQ (call_r hcount rfl rfl (arg_e arg_nil) (.inl rfl) (fun _ => rfl)) ?_;iterate 9 refine rC ?_
    refine nQ ?_;refine wc_draw (by kernel_rfl) ?_;refine dreg_w [] [] rfl (call_new pair_own rfl rfl arg_nil (.inl rfl) rfl rfl) ?_;refine dQ [] [] (StepIs.frozen (make_full (enc := encU8) (s := 1) (N := 32) tab_ok (0 : Int) rfl rfl rfl rfl rfl rfl rfl (by decide) rfl) (Frz.own rfl)) ?_
    refine dQ [102] [] iS ?_;refine dQ [103] [] (StepIs.frozen (build_slice (s := 3) tab_ok rfl rfl rfl rfl rfl rfl rfl rfl) (Frz.lits1 (enc := encV) vW rfl rfl)) ?_
    refine dreg_w [104] [] rfl (build_slice (s := 1) tab_ok rfl rfl rfl rfl rfl rfl rfl rfl) ?_;refine dreg_w2 [101, 105] [168, 200] rfl (append_one (xs := pairV) (s := 1) (enc := encPV) tab_ok vW1 rfl rfl rfl rfl rfl rfl rfl rfl rfl (by decide) rfl) ?_
    refine dreg_w [106] [208] rfl (call_h [(0, some _)] touched_h rfl rfl rfl (arg_give rfl rfl (arg_e arg_nil)) ⟨⟨rfl, rfl, _, _, rfl, rfl, .refl _⟩, trivial⟩ rfl rfl (.inl rfl) rfl rfl) ?_
    refine dC [107] [] ?_;refine dreg_end (by kernel_rfl) ?_;refine seq_n ?_;refine sR ?_;iterate 3 refine rC ?_
    refine rP ?_;refine rC ?_;refine rP ?_;refine rC ?_;refine rQ iU ?_;refine rC ?_;refine rP ?_;refine rC ?_;refine rP ?_;refine rC ?_;refine rQ iU ?_;refine rC ?_
    refine rP ?_;refine rC ?_;refine rP ?_;refine rC ?_;refine rQ iU ?_;refine rC ?_;refine rP ?_;refine rC ?_;refine rP ?_;refine rQ (len_arx tab_ok rfl rfl) ?_;refine rP ?_
    refine rC ?_;refine rQ iU ?_;refine rC ?_;refine rP ?_;refine rC ?_;refine rP ?_;refine rQ (index_arx tab_ok rfl rfl rfl rfl rfl (by decide) h13a) ?_;refine rP ?_
    refine rQ iL ?_;refine rP ?_;refine rC ?_;refine rQ iU ?_;refine rC ?_;refine rP ?_;refine rC ?_;refine rP ?_;refine rQ (index_arx tab_ok rfl rfl rfl rfl rfl (by decide) h13b) ?_
    refine rP ?_;refine rQ iL ?_;refine rP ?_;refine rC ?_;refine rQ iU ?_;refine rC ?_;refine rP ?_;refine rQ (call_r pair_is rfl rfl arg_nil (.inl rfl) (fun _ => rfl)) ?_
    refine rP ?_;refine rQ (call_r htou rfl rfl (arg_e (arg_e arg_nil)) (.inl rfl) (fun _ => rfl)) ?_;refine rP ?_;refine rQ (len_arx tab_ok rfl rfl) ?_;refine rP ?_
    refine rC ?_;refine rQ iU ?_;refine rC ?_;refine nS ?_;refine wc_ret ?_
    exact ⟨trivial, [], lf⟩
  | (n + 5), h => exact absurd h (by omega)
end Go.Proofs.YtmojbghcngdkpaaGreatDoor

namespace Go.Proofs.YtmojbghcngdkpaaGreatDoor
open Go.Eng Go.Plain
set_option maxHeartbeats 4000000
set_option maxRecDepth 20000
set_option linter.unusedVariables false
attribute [local irreducible] WC RegS RegD SeqQ BlkQ ScoQ RegK CutK Sat SatN FnIs LoopQ StepIs OpIs
theorem xl_dle (l : List (List POp)) : DLe (.arx 1 encXP l) (encPL l) := fun _ _ cs h => Enc.arx_arr (fun _ c hc => Enc.arx_arr (fun _ _ h => h) c hc) cs h
def one (b : Bool) : Int := if b = true then 1 else 0
/-- What is read is not much. -/
theorem parse_small (s : List UInt8) : (parseP s [] 1).1.length ≤ 8 ∧ ∀ p ∈ (parseP s [] 1).1, p.length ≤ 1000000000 := by
  rcases Classical.em ((parseP s [] 1).2.2 = 0) with h | h
  · obtain ⟨_, _, hc, _⟩ := parse_out s.length s [] (parseP s [] 1).1 1 (parseP s [] 1).2.1 (Nat.le_refl _) rfl (by intro p hp; simp at hp) (by rw [← h])
    exact ⟨(chkP_ok.1 hc).1, (bd_chk hc).2⟩
  · rw [parse_err s.length s [] (parseP s [] 1).1 1 (parseP s [] 1).2.1 (parseP s [] 1).2.2 (Nat.le_refl _) rfl h]
    exact ⟨by decide, by intro p hp; simp at hp⟩
end Go.Proofs.YtmojbghcngdkpaaGreatDoor

namespace Go.Proofs.YtmojbghcngdkpaaGreatDoor
open Go.Eng Go.Plain
theorem pu8_of {a : Int} (h : (Lit.int .u8 a).wf = true) : 0 ≤ a ∧ a ≤ 255 := by
  simp [Lit.wf, IntKind.min, IntKind.max, IntKind.bits, IntKind.signed] at h
  omega
theorem pi64_of {a : Int} (h : (Lit.int .i64 a).wf = true) : -9223372036854775808 ≤ a ∧ a ≤ 9223372036854775807 := by
  simp [Lit.wf, IntKind.min, IntKind.max, IntKind.bits, IntKind.signed] at h
  omega
def toB (l : List Int) : List UInt8 := l.map fun z => z.toNat.toUInt8
theorem toB_byI {l : List Int} (h : ∀ a ∈ l, (Lit.int .u8 a).wf = true) : byI (toB l) = l := by
  rw [byI, toB, List.map_map]
  have : ∀ a ∈ l, ((fun b : UInt8 => (b.toNat : Int)) ∘ fun z : Int => z.toNat.toUInt8) a = a := fun a ha => by
    obtain ⟨h1, h2⟩ := pu8_of (h a ha)
    simp only [Function.comp_apply, Nat.toUInt8_eq, UInt8.toNat_ofNat']
    omega
  rw [List.map_congr_left this, List.map_id'']
  exact fun _ => rfl
theorem opens_bytes : Opens Tryz.prog 48 1 (fun l : List UInt8 => encB l) fun _ => True :=
  Opens.map (opens_slice (P := Tryz.prog) Tryz.underlying48 (by kernel_rfl) (opens_int (P := Tryz.prog) Tryz.underlying5))
    toB (fun l h => by show D.arr 1 encU8 (byI (toB l)) = _; rw [toB_byI h.2]; rfl) (fun _ _ => trivial)
end Go.Proofs.YtmojbghcngdkpaaGreatDoor

namespace Go.Proofs.YtmojbghcngdkpaaGreatDoor
open Go.ChangeShapes Go.WideShapes Go.ChangeAt Go.RowKit Go.Eng
theorem own : ownKnob Tryz.prog.godebug = none := by kernel_rfl
theorem laidOut : laidOutB Tryz.prog = true := by kernel_rfl
theorem gPow : Tryz.prog.globalNamed "internal/strconv.uint64pow10" = some 3 := by kernel_rfl
theorem gSyn : Tryz.prog.globalNamed "strconv.ErrSyntax" = some 1 := by kernel_rfl
theorem gRan : Tryz.prog.globalNamed "strconv.ErrRange" = some 2 := by kernel_rfl
theorem tPow : (Tryz.prog.globals[3]?).map (·.type) = some 253 := by kernel_rfl
theorem tSyn : (Tryz.prog.globals[1]?).map (·.type) = some 122 := by kernel_rfl
theorem tRan : (Tryz.prog.globals[2]?).map (·.type) = some 122 := by kernel_rfl
theorem block_of_var {P : Program} {w : World} {n : String} {g : Nat} {cs : Array Value} (hg : P.globalNamed n = some g) (h : w.var? P n = some cs) : ∃ t fr, w.heap[g]? = some (.cells cs t fr) := by
  unfold World.var? at h
  rw [hg] at h
  simp only [Option.bind_some] at h
  split at h
  · rename_i t fr hh
    cases h
    exact ⟨_, _, hh⟩
  · cases h
theorem globs_of {W : World} (hL : laidMetH Tryz.prog Rows.programsSameRow.laid W) (hsh : W.ShapedOpen Tryz.prog) : ∀ x ∈ globs, x.2 (W.heap[x.1]?) ∧ x.1 < W.heap.size := by
  rw [MakeChecks.laidMetH_plain _ _ _ (by kernel_rfl)] at hL
  obtain ⟨ps, ⟨_, _, _, _, _, _, _, _, _, _, ⟨_, _, _, _, _, _, _, _, _, _, ⟨g3, t3, cs3, f3, p3, q3, hg3, ht3, hv3, hd3, ⟨_, _, _, _, _, _, _, _, _, _, ⟨g2, t2, cs2, f2, p2, q2, hg2, ht2, hv2, hd2, ⟨g1, t1, cs1, f1, p1, q1, hg1, ht1, hv1, hd1, _, _⟩, _⟩, _⟩, _⟩, _⟩, _⟩, _, _⟩ := hL
  obtain rfl := Option.some.inj (gPow.symm.trans hg3)
  obtain rfl := Option.some.inj (gRan.symm.trans hg2)
  obtain rfl := Option.some.inj (gSyn.symm.trans hg1)
  obtain rfl := Option.some.inj (tPow.symm.trans ht3)
  obtain rfl := Option.some.inj (tRan.symm.trans ht2)
  obtain rfl := Option.some.inj (tSyn.symm.trans ht1)
  obtain ⟨_, u2, v2, hc2, _, _⟩ := iface_of_trod Tryz.underlying122 hd2
  obtain ⟨_, u1, v1, hc1, _, _⟩ := iface_of_trod Tryz.underlying122 hd1
  have hc3 : cs3.toList = Lib.pow10Tab.map fun z => Value.int .u64 z := Lib.cells_of_tab (zs := Lib.pow10Tab) Tryz.underlying253 Tryz.underlying212 (by kernel_rfl) (by kernel_rfl) hd3
  obtain ⟨a3, b3, hb3⟩ := block_of_var gPow hv3
  obtain ⟨a2, b2, hb2⟩ := block_of_var gRan hv2
  obtain ⟨a1, b1, hb1⟩ := block_of_var gSyn hv1
  obtain ⟨cs0, hh0, hs0, hr0⟩ := hsh.1 0 #[.int .i64 0] 3 (of_decide_eq_true (by kernel_rfl)) (by kernel_rfl)
  obtain ⟨m, hm⟩ := cell_of_shapedOpen_int (g := 0) (zero := #[.int .i64 0]) (t := 3) hsh (of_decide_eq_true (by kernel_rfl)) (by kernel_rfl) rfl (by kernel_rfl) (by kernel_rfl) Tryz.underlying3
  have he0 : ∃ fr, W.heap[0]? = some (.cells #[.int .i64 m] 3 fr) := by
    have h1 : cs0[0]? = some (.int .i64 m) := by
      have := hm
      simp only [World.cell?, hh0] at this
      exact this
    have h2 : cs0 = #[.int .i64 m] := by
      apply Array.ext'
      obtain ⟨l⟩ := cs0
      have hl : l.length = 1 := by simpa using hs0
      match l, hl, h1 with
      | [x], _, h1 => simpa using h1
    exact ⟨_, by rw [hh0, h2]⟩
  obtain ⟨fr0, he0⟩ := he0
  have e1 : cs1 = #[.iface u1 v1] := Array.ext' hc1
  have e2 : cs2 = #[.iface u2 v2] := Array.ext' hc2
  have e3 : cs3 = (Lib.pow10Tab.map fun z => Value.int .u64 z).toArray := Array.ext' (by simpa using hc3)
  intro x hx
  simp only [globs, List.mem_cons, List.not_mem_nil, or_false] at hx
  rcases hx with rfl | rfl | rfl | rfl
  · exact ⟨⟨m, 3, fr0, he0⟩, (Array.getElem?_eq_some_iff.1 he0).1⟩
  · refine ⟨⟨.iface u1 v1, a1, b1, ?_, .inr ⟨u1, v1, rfl⟩⟩, (Array.getElem?_eq_some_iff.1 hb1).1⟩
    rw [hb1, e1]
  · refine ⟨⟨.iface u2 v2, a2, b2, ?_, .inr ⟨u2, v2, rfl⟩⟩, (Array.getElem?_eq_some_iff.1 hb2).1⟩
    rw [hb2, e2]
  · refine ⟨⟨a3, b3, ?_⟩, (Array.getElem?_eq_some_iff.1 hb3).1⟩
    rw [hb3, e3]
/-- The wrap with a condition on memory and the world's shape. -/
theorem handed_of {H : Type} {enc : TypeId × Value → H} {a : Assume} {C : Checked} {os : Os} {f : FuncId} {fn : Func} {s : ChangeSpec} {conds : List PathCond} {apart fresh handsOn again : Bool} {X : World → Array Value → Prop}
    (hX : ∀ (w w' : World) (args : Array Value), w.heap = w'.heap → X w args → X w' args)
    (own : ownKnob C.prog.godebug = none) (started : os.Started) (noInit : C.prog.inits.idxOf? f = none) (hfn : C.prog.funcs[f]? = some fn)
    (witness : ∃ (w : World) (tape : Tape) (i : Input), w.os = os ∧ (w.forCall tape i).Shaped C.prog ∧ i.vars = [] ∧ Input.okWide C.prog (w.forCall tape i) .any w.heap.size f i ∧
      ((s.pre enc C.prog fn conds apart (w.forCall tape i).memory i.args ∧ X (w.forCall tape i).memory i.args) ∧ sizedMet enc C.prog fn (OpenSpec.ofChange s) apart (w.forCall tape i).memory i.args) ∧ a.holds C.prog (lone (Frame.enter C.prog f i.args .normal) [] (w.forCall tape i)))
    (contract : ∀ (W : World) (base : Nat) (args : Array Value) (ds gs : List (DataW H)) (before : List MemPlace),
      (∀ (j : Nat) t v, fn.params[j]? = some t → args[j]? = some v → Value.okWide C.prog W .any base t v) →
      DataW.Whole enc C.prog fn.params.toList s.vars apart W args.toList ds gs before →
      X W args → W.ShapedOpen C.prog →
      Calls C.prog f args W fun e W' => ∃ v, e = .returned v ∧ s.post enc C.prog fn apart fresh handsOn again W args v W') :
    ReturnsInHanded a C os f .any (fun w args => (s.pre enc C.prog fn conds apart w args ∧ X w args) ∧ sizedMet enc C.prog fn (OpenSpec.ofChange s) apart w args) (s.post enc C.prog fn apart fresh handsOn again) := by
  refine returnsInHanded_of_calls own started noInit witness ?_
  intro w tape i _ hsh _ hok hpre _
  obtain ⟨_, _, _, fn', hfn', _, _, _, _, hval⟩ := hok
  have e : fn' = fn := Option.some.inj (hfn'.symm.trans hfn)
  subst e
  obtain ⟨⟨⟨ds, gs, before, hw, hc⟩, hx⟩, hz⟩ := hpre
  have hw' := DataW.Whole.of_heap (w' := w.forCall tape i) (by rfl) hw
  refine (contract (w.forCall tape i) w.heap.size i.args ds gs before hval hw' (hX _ _ _ (by rfl) hx) hsh).mono fun e W' ⟨v, he, hp⟩ => ?_
  subst he
  exact ChangeSpec.post_blind hp
end Go.Proofs.YtmojbghcngdkpaaGreatDoor

namespace Go.Proofs.YtmojbghcngdkpaaGreatDoor
open Go
theorem and2 {a b : Bool} (h : a = true) (k : b = true) : (a && b) = true := by rw [h, k]; rfl
theorem pf_maps : mapsRowed Tryz.prog = true := by kernel_rfl
theorem pf_keys : (Rows.programsSameRow.plainKeys == Tryz.prog.plainKeys) = true := by kernel_rfl
theorem pf_heard : Tryz.prog.stopsHeard = true := by kernel_rfl
theorem pf_enter : Tryz.prog.mayEnter = true := by kernel_rfl
theorem pf_lifts : (Rows.programsSameRow.lifted == Tryz.prog.liftsFinal) = true := by kernel_rfl
theorem pf_make : (Tryz.prog.make == some Rows.programsSameRow.make) = true := by kernel_rfl
end Go.Proofs.YtmojbghcngdkpaaGreatDoor

namespace Go.Proofs.YtmojbghcngdkpaaGreatDoor
open Go.Eng Go.Plain
set_option maxHeartbeats 4000000
set_option maxRecDepth 20000
set_option linter.unusedVariables false
attribute [local irreducible] WC RegS RegD SeqQ BlkQ ScoQ RegK CutK Sat SatN FnIs LoopQ StepIs OpIs
end Go.Proofs.YtmojbghcngdkpaaGreatDoor

namespace Go.Proofs.YtmojbghcngdkpaaGreatDoor
open Go.Eng Go.Plain
set_option maxHeartbeats 4000000
set_option maxRecDepth 20000
set_option linter.unusedVariables false
attribute [local irreducible] WC RegS RegD SeqQ BlkQ ScoQ RegK CutK Sat SatN FnIs LoopQ StepIs OpIs
abbrev wordsL (n : List UInt8) : List (List UInt8) := [[99, 108, 105, 101, 110, 116], [114, 101, 97, 100, 32] ++ n, [119, 114, 105, 116, 101, 32] ++ n ++ [32, 48, 48], [102, 108, 117, 115, 104], [111, 112, 32, 57, 32] ++ n ++ [32, 45], [119, 114, 105, 116, 101, 32] ++ n ++ [32, 45], [111, 112, 32, 51, 32, 48, 32, 102, 102], [114, 101, 97, 100, 32] ++ n ++ [32], [102, 108, 117, 115, 104, 32, 48], [111, 112, 32, 50, 32] ++ n ++ [32, 48, 48], [99, 108, 105, 101, 110, 116, 32, 49], [111, 112, 32, 50, 53, 54, 32] ++ n ++ [32, 45], [119, 114, 105, 116, 101, 32] ++ n ++ [32, 48], [119, 114, 105, 116, 101, 32] ++ n ++ [32, 48, 65], [], [114, 101, 97, 100]]
theorem wordsL_le {n w : List UInt8} (hn : n.length ≤ 20) (h : w ∈ wordsL n) : w.length ≤ 35 := by
  simp only [wordsL, List.mem_cons, List.not_mem_nil, or_false] at h
  rcases h with rfl | rfl | rfl | rfl | rfl | rfl | rfl | rfl | rfl | rfl | rfl | rfl | rfl | rfl | rfl | rfl <;> simp only [List.length_append, List.length_cons, List.length_nil] <;> omega
theorem law_lines (L : List UInt8) (ix : Int) (h0 : -9223372036854775808 ≤ ix) (h1 : ix ≤ 9223372036854775807) : FnIs Tryz.prog 14 [.d (encB L), .int .i64 ix] [] (.bool true) [] := by
  have hbl : (byI L).length = L.length := byI_len L
  refine fnIs_of tab_ok Tryz.func14 rfl rfl rfl ?_
  by_cases h80 : 80 < L.length
  · have d80 : decide (80 < ((byI L).length : Int)) = true := decide_eq_true (by omega)
    refine sR ?_;refine rC ?_;refine nQ ?_;refine sR ?_;refine rC ?_;refine rQ iE ?_;refine rC ?_;refine nS ?_;refine wT ?_;refine sR ?_;refine rQ (call_r lives_is rfl rfl arg_nil (.inl rfl) (fun _ => rfl)) ?_
    refine rC ?_;refine nS ?_;refine wc_ret ?_;refine seq_r ?_
    exact ⟨trivial, [], lf⟩
  have d80 : decide (80 < ((byI L).length : Int)) = false := decide_eq_false (by omega)
  have hnum := number_is ix h0 h1
  have hnl := itoa_len h0 h1
  generalize Lib.itoa ix = n at *
  refine sR ?_;refine rC ?_;refine nQ ?_;refine sR ?_;refine rC ?_;refine rQ iE ?_;refine rC ?_;refine nS ?_;refine wF ?_;refine kS ?_;refine sR ?_;refine rC ?_;refine rQ (call_r hnum rfl rfl (arg_e arg_nil) (.inl rfl) (fun _ => rfl)) ?_
  refine rC ?_;refine nR ?_;refine rC ?_
  refine rQ (add_str (a := [114, 101, 97, 100, 32]) (b := n) rfl rfl (by simp only [List.length_append, List.length_cons, List.length_nil]; omega) rfl) ?_
  refine rC ?_
  refine rQ (add_str (a := [119, 114, 105, 116, 101, 32]) (b := n) rfl rfl (by simp only [List.length_append, List.length_cons, List.length_nil]; omega) rfl) ?_
  refine rQ (add_str (a := [119, 114, 105, 116, 101, 32] ++ n) (b := [32, 48, 48]) rfl rfl (by simp only [List.length_append, List.length_cons, List.length_nil]; omega) rfl) ?_
  refine rC ?_
  refine rQ (add_str (a := [111, 112, 32, 57, 32]) (b := n) rfl rfl (by simp only [List.length_append, List.length_cons, List.length_nil]; omega) rfl) ?_
  refine rQ (add_str (a := [111, 112, 32, 57, 32] ++ n) (b := [32, 45]) rfl rfl (by simp only [List.length_append, List.length_cons, List.length_nil]; omega) rfl) ?_
  refine rC ?_
  refine rQ (add_str (a := [119, 114, 105, 116, 101, 32]) (b := n) rfl rfl (by simp only [List.length_append, List.length_cons, List.length_nil]; omega) rfl) ?_
  refine rQ (add_str (a := [119, 114, 105, 116, 101, 32] ++ n) (b := [32, 45]) rfl rfl (by simp only [List.length_append, List.length_cons, List.length_nil]; omega) rfl) ?_
  refine rC ?_
  refine rQ (add_str (a := [114, 101, 97, 100, 32]) (b := n) rfl rfl (by simp only [List.length_append, List.length_cons, List.length_nil]; omega) rfl) ?_
  refine rQ (add_str (a := [114, 101, 97, 100, 32] ++ n) (b := [32]) rfl rfl (by simp only [List.length_append, List.length_cons, List.length_nil]; omega) rfl) ?_
  refine rC ?_
  refine rQ (add_str (a := [111, 112, 32, 50, 32]) (b := n) rfl rfl (by simp only [List.length_append, List.length_cons, List.length_nil]; omega) rfl) ?_
  refine rQ (add_str (a := [111, 112, 32, 50, 32] ++ n) (b := [32, 48, 48]) rfl rfl (by simp only [List.length_append, List.length_cons, List.length_nil]; omega) rfl) ?_
  refine rC ?_
  refine rQ (add_str (a := [111, 112, 32, 50, 53, 54, 32]) (b := n) rfl rfl (by simp only [List.length_append, List.length_cons, List.length_nil]; omega) rfl) ?_
  refine rQ (add_str (a := [111, 112, 32, 50, 53, 54, 32] ++ n) (b := [32, 45]) rfl rfl (by simp only [List.length_append, List.length_cons, List.length_nil]; omega) rfl) ?_
  refine rC ?_
  refine rQ (add_str (a := [119, 114, 105, 116, 101, 32]) (b := n) rfl rfl (by simp only [List.length_append, List.length_cons, List.length_nil]; omega) rfl) ?_
  refine rQ (add_str (a := [119, 114, 105, 116, 101, 32] ++ n) (b := [32, 48]) rfl rfl (by simp only [List.length_append, List.length_cons, List.length_nil]; omega) rfl) ?_
  refine rC ?_
  refine rQ (add_str (a := [119, 114, 105, 116, 101, 32]) (b := n) rfl rfl (by simp only [List.length_append, List.length_cons, List.length_nil]; omega) rfl) ?_
  refine rQ (add_str (a := [119, 114, 105, 116, 101, 32] ++ n) (b := [32, 48, 65]) rfl rfl (by simp only [List.length_append, List.length_cons, List.length_nil]; omega) rfl) ?_
  refine rQ (StepIs.frozen (build_slice (s := 1) tab_ok rfl rfl rfl rfl rfl rfl rfl rfl) (Frz.litsN (enc := strD) (wordsL n) rfl (fun _ _ => rfl))) ?_;refine rC ?_
  refine nR ?_;refine rC ?_;refine nQ ?_;refine sR ?_;refine rC ?_;refine nS ?_;refine wc_block ?_
  refine wc_inv (fun a : List UInt8 × Nat => ⟨[(8, .int .i64 a.2), (7, .d (strD a.1)), (6, .d (.arr 1 strD (wordsL n))), (0, .d (encB L))], [], 72, Tryz.f14.ntmps, 64⟩) (fun a => a.2 ≤ L.length ∧ a.1.length ≤ 36 * a.2) (fun a => L.length - a.2) ([], 0) [] ⟨Nat.zero_le _, Nat.le_refl _⟩
    (.of rfl rfl rfl rfl rfl ⟨⟨_, rfl, .refl _⟩, rfl, ⟨_, rfl, .refl _⟩, rfl, ⟨_, rfl, .refl _⟩, rfl, ⟨_, rfl, .refl _⟩, rfl, trivial⟩ trivial) ?_
  rintro ⟨s, k⟩ ⟨hk, hsl⟩
  simp only at hk hsl
  by_cases hlt : k < L.length
  · have h3 : decide ((k : Int) < ((byI L).length : Int)) = true := decide_eq_true (by omega)
    obtain ⟨c, hc⟩ : ∃ c, L[k]? = some c := ⟨_, List.getElem?_eq_getElem hlt⟩
    have hc' : (byI L)[((k : Int)).toNat]? = some (c.toNat : Int) := by rw [Int.toNat_natCast]; exact byI_get hc
    have hcb := c.toNat_lt
    have hw61 : IntKind.i64.wrap ((c.toNat % 64 : Nat) : Int) = ((c.toNat % 64 : Nat) : Int) := wrap_i64 (by omega) (by omega)
    obtain ⟨w, hw0⟩ : ∃ w, (wordsL n)[c.toNat % 64 % 16]? = some w := ⟨_, List.getElem?_eq_getElem (by show c.toNat % 64 % 16 < 16; omega)⟩
    have hw : (wordsL n)[(((c.toNat % 64 % 16 : Nat) : Int)).toNat]? = some w := by rw [Int.toNat_natCast]; exact hw0
    have hwl := wordsL_le hnl (List.mem_of_getElem? hw0)
    have hl67 : s.length + w.length ≤ 9223372036854775807 := by omega
    have hl68 : (s ++ w).length + [(10 : UInt8)].length ≤ 9223372036854775807 := by simp; omega
    have hlen : (s ++ w ++ [(10 : UInt8)]).length = (s ++ w).length + 1 := by simp; omega
    have hlen2 : (s ++ w).length = s.length + w.length := List.length_append
    have hw77 : IntKind.i64.wrap (((s ++ w ++ [(10 : UInt8)]).length : Int) - 1) = ((s ++ w).length : Int) := by rw [hlen, wrap_i64 (by omega) (by omega)]; omega
    have hle78 : (s ++ w).length ≤ (s ++ w ++ [(10 : UInt8)]).length := by omega
    have htk78 : (s ++ w ++ [(10 : UInt8)]).take (s ++ w).length = s ++ w := List.take_left'  rfl
    by_cases h250 : 250 < c.toNat
    · have d250 : decide (250 < (c.toNat : Int)) = true := decide_eq_true (by omega)
      refine wc_of ?_;refine qR ?_;iterate 2 refine rC ?_
      refine rQ iE ?_;refine rC ?_;refine nS ?_;refine wT ?_;refine kS ?_;refine wc_seq ?_;refine wc_block ?_;refine sR ?_;iterate 4 refine rC ?_
      refine rQ iA ?_;refine rQ iL ?_;refine rQ (rem_nat (a := c.toNat) (b := 64) tab_ok rfl rfl rfl (by decide)) ?_;refine rQ (conv_int (m := ((c.toNat % 64 : Nat) : Int)) tab_ok rfl rfl rfl hw61) ?_
      refine rC ?_;refine rQ iE ?_;refine rQ (rem_nat (a := c.toNat % 64) (b := 16) tab_ok rfl rfl rfl (by decide)) ?_;refine rQ (index_arr tab_ok rfl rfl rfl rfl rfl (by omega) hw) ?_
      refine rQ iL ?_;refine rQ (add_str (a := s) (b := w) rfl rfl hl67 rfl) ?_;refine rQ (add_str (a := s ++ w) (b := [10]) rfl rfl hl68 rfl) ?_;refine rC ?_;refine nR ?_
      iterate 2 refine rC ?_
      refine rQ iA ?_;refine rQ iL ?_;refine rC ?_;refine nS ?_;refine wT ?_;refine wc_region ?_;iterate 2 refine rC ?_
      refine rQ (len_s tab_ok rfl rfl) ?_;refine rQ (sub_int (m := ((s ++ w).length : Int)) tab_ok rfl rfl hw77) ?_;refine rQ (str_to (l := s ++ w ++ [10]) (hi := (s ++ w).length) (m := s ++ w) tab_ok rfl rfl rfl hle78 htk78) ?_
      refine rC ?_;refine reg_nil ?_;refine blk_n ?_;refine seq_n ?_;refine wc_region ?_;refine rC ?_;refine rQ iD ?_;refine rC ?_;refine reg_nil ?_
      exact loop_n (s ++ w, k + 1) [] ⟨hlt, by show (s ++ w).length ≤ 36 * (k + 1); omega⟩ (by show L.length - (k + 1) < L.length - k; omega) (.of rfl rfl rfl rfl rfl ⟨⟨_, rfl, .refl _⟩, rfl, ⟨_, rfl, .refl _⟩, rfl, ⟨_, rfl, .refl _⟩, rfl, ⟨_, rfl, .refl _⟩, rfl, trivial⟩ trivial)
    · have d250 : decide (250 < (c.toNat : Int)) = false := decide_eq_false (by omega)
      refine wc_of ?_;refine qR ?_;iterate 2 refine rC ?_
      refine rQ iE ?_;refine rC ?_;refine nS ?_;refine wT ?_;refine kS ?_;refine wc_seq ?_;refine wc_block ?_;refine sR ?_;iterate 4 refine rC ?_
      refine rQ iA ?_;refine rQ iL ?_;refine rQ (rem_nat (a := c.toNat) (b := 64) tab_ok rfl rfl rfl (by decide)) ?_;refine rQ (conv_int (m := ((c.toNat % 64 : Nat) : Int)) tab_ok rfl rfl rfl hw61) ?_
      refine rC ?_;refine rQ iE ?_;refine rQ (rem_nat (a := c.toNat % 64) (b := 16) tab_ok rfl rfl rfl (by decide)) ?_;refine rQ (index_arr tab_ok rfl rfl rfl rfl rfl (by omega) hw) ?_
      refine rQ iL ?_;refine rQ (add_str (a := s) (b := w) rfl rfl hl67 rfl) ?_;refine rQ (add_str (a := s ++ w) (b := [10]) rfl rfl hl68 rfl) ?_;refine rC ?_;refine nR ?_
      iterate 2 refine rC ?_
      refine rQ iA ?_;refine rQ iL ?_;refine rC ?_;refine nS ?_;refine wF ?_;refine wc_skip ?_;refine blk_n ?_;refine seq_n ?_;refine wc_region ?_;refine rC ?_;refine rQ iD ?_
      refine rC ?_;refine reg_nil ?_
      exact loop_n (s ++ w ++ [10], k + 1) [] ⟨hlt, by show (s ++ w ++ [10]).length ≤ 36 * (k + 1); omega⟩ (by show L.length - (k + 1) < L.length - k; omega) (.of rfl rfl rfl rfl rfl ⟨⟨_, rfl, .refl _⟩, rfl, ⟨_, rfl, .refl _⟩, rfl, ⟨_, rfl, .refl _⟩, rfl, ⟨_, rfl, .refl _⟩, rfl, trivial⟩ trivial)
  · have h3 : decide ((k : Int) < ((byI L).length : Int)) = false := decide_eq_false (by omega)
    have hrp := rparse_is s (by omega)
    have hp := parse_is s (by omega)
    have hlen := parse_small s
    generalize hr : parseP s [] 1 = r at *
    obtain ⟨m, j, e⟩ := r
    obtain ⟨hm1, hm2⟩ := hlen
    simp only at hm1 hm2
    have hs := rsame_is m m (by omega) hm2
    rw [if_pos rfl] at hs
    have e1 : decide (e = e) = true := decide_eq_true rfl
    have e2 : decide ((j : Int) = (j : Int)) = true := decide_eq_true rfl
    refine wc_of ?_;refine qR ?_;iterate 2 refine rC ?_
    refine rQ iE ?_;refine rC ?_;refine nS ?_;refine wF ?_;refine wc_exit ?_;refine seq_x ?_;refine loop_x ?_;refine blk_x ?_;refine seq_n ?_;refine sR ?_;refine rC ?_
    refine rQ (call_r hrp rfl rfl (arg_e arg_nil) (.inl rfl) (fun _ => rfl)) ?_;iterate 7 refine rC ?_
    refine nR ?_;refine rC ?_;refine rQ (call_r hp rfl rfl (arg_e arg_nil) (.inl rfl) (fun _ => rfl)) ?_;iterate 7 refine rC ?_
    refine nR ?_;iterate 4 refine rC ?_
    refine rO ?_;refine rC ?_;refine rO ?_;refine rC ?_;refine rO ?_;refine rC ?_;refine rQ iT ?_;refine rC ?_;refine rO ?_;refine rC ?_;refine rO ?_;refine rC ?_;refine rO ?_
    refine rQ (call_r hs rfl rfl (arg_d rfl trivial (xl_dle _) (arg_e arg_nil)) (.inl rfl) (fun _ => rfl)) ?_;refine rO ?_;refine rC ?_;refine rQ iT ?_;refine rC ?_
    refine rP ?_;refine rQ (call_r lives_is rfl rfl arg_nil (.inl rfl) (fun _ => rfl)) ?_;refine rQ iU ?_;refine rC ?_;refine nS ?_;refine wc_ret ?_
    exact ⟨trivial, [], lf⟩
end Go.Proofs.YtmojbghcngdkpaaGreatDoor
