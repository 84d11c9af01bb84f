/- Texts of the proof: P43, PM, PN, P40, P41, P44, P45, P46, Eng83, Eng84, P47a, P47, P48, PO, JP, JQ, P49, P50, Eng85, P51a. -/
import Derived.Test.YtmojbghcngdkpaaGreatDoorG05
import Derived.Test.YtmojbghcngdkpaaGreatDoorG04
import Derived.Lib.SlicesCompact
import Derived.Test.YtmojbghcngdkpaaGreatDoorG02
import Derived.Test.YtmojbghcngdkpaaGreatDoorRows
import Derived.ProofKit
import Derived.LaidMore
import Derived.OpenShut
import Derived.Stop.Joined
import Derived.HandedShaped
import Derived.Lay
import Derived.SevenTiedAt

set_option linter.unusedVariables false
set_option linter.unusedSimpArgs false
set_option linter.unusedSectionVars false

namespace Go.Proofs.YtmojbghcngdkpaaGreatDoor
open Go.Eng Go.Plain
set_option maxHeartbeats 4000000
set_option maxRecDepth 20000
set_option linter.unusedVariables false
attribute [local irreducible] WC RegS RegD SeqQ BlkQ ScoQ RegK CutK Sat SatN FnIs LoopQ StepIs OpIs
theorem encO_le (xs : List (Option (List POp))) (L : List (List POp)) (h : xs.map (fun o => o.getD []) = L) : DLe (.arr 1 encO xs) (.arr 1 encP L) := by
  subst h
  rintro w X cs (⟨rfl, rfl⟩ | ⟨a, c, rfl, h1, h2, f, hf⟩)
  · exact .inl ⟨rfl, rfl⟩
  · refine .inr ⟨a, c, by rw [List.length_map], by rw [List.length_map]; exact h1, h2, f, fun i hi => ?_⟩
    rw [List.length_map] at hi
    obtain ⟨g1, g2, g3⟩ := hf i hi
    refine ⟨?_, g2, g3⟩
    rw [List.getElem_map]
    cases ho : xs[i] with
    | none => rw [ho] at g1; exact .inl ⟨rfl, g1.1⟩
    | some p => rw [ho] at g1; exact g1
theorem arg_ownD {look : Nat → Option Row} {ρ : Nat → Option Nat} {α : Type} {s r len : Nat} {te : TypeId} {ex : Bool} {cap : Option Nat} {enc : α → D} {xs : List α} {d : D} {bs avs : List AV} (hr : look r = some (.ds te s ex enc xs)) (hl : len = xs.length) (hag : d.isAgg = false) (hd : DLe (.arr s enc xs) d) (h : ArgsA look ρ bs avs) :
    ArgsA look ρ (.own r 0 len s cap :: bs) (.d d :: avs) := by
  subst hl
  exact ⟨_, avs, rfl, ⟨rfl, rfl⟩, ⟨hag, by simp only [ArgD, hr]; exact ⟨trivial, by simp, xs, by simp, hd⟩⟩, h⟩
abbrev rpR (x : List (List POp) × Nat × Int) : AV := .tup (.acons (.d (encPL x.1)) (.acons (.int .i64 (x.2.1 : Nat)) (.acons (.int .i64 x.2.2) .anil)))
theorem rp_nil (i : Nat) (e : Int) : AVLe (.tup (.acons (.d (.sc nil_)) (.acons (.int .i64 ((i : Nat) : Int)) (.acons (.int .i64 e) .anil)))) (rpR ([], i, e)) := AVLe.tup1 (nil_arr _ _) rfl
@[reducible] noncomputable def qSt (s : List UInt8) (W : List (List UInt8)) : Option (List (List POp) × List POp) × Nat → St
  | (none, i) => ⟨[(7, .int .i64 i), (6, .d (.sc nil_)), (5, .d (.arr 1 strD W))], [], 72, Tryz.f50.ntmps, 64⟩
  | (some (l, p), i) => ⟨[(7, .int .i64 i), (6, .own 65 0 (l.length + 1) 1 none), (5, .d (.arr 1 strD W))], [(65, some (rowL p l (l.length + 1) 66)), (66, some (rowP p))], 72, Tryz.f50.ntmps, 64⟩
def QInv (W : List (List UInt8)) : Option (List (List POp) × List POp) × Nat → Prop
  | (q, i) => i ≤ W.length ∧ parseR (W.drop i) i (toL q) = parseR W 0 [] ∧ chkP (toL q) = 0
theorem pR_drop {W : List (List UInt8)} {i : Nat} {t : List UInt8} (h : W[i]? = some t) : W.drop i = t :: W.drop (i + 1) := by
  obtain ⟨h1, h2⟩ := List.getElem?_eq_some_iff.1 h
  rw [List.drop_eq_getElem_cons h1, h2]
theorem pR_last {t : List UInt8} {r : List (List UInt8)} {i : Nat} {L : List (List POp)} (hr : r = []) (ht : t ≠ []) : parseR (t :: r) i L = ([], i + 1, 5) := by
  subst hr
  rw [parseR, if_neg ht]
theorem pR_end {t : List UInt8} {r : List (List UInt8)} {i : Nat} {L : List (List POp)} (hr : r = []) (ht : t = []) : parseR (t :: r) i L = (L, 0, 0) := by
  subst hr
  rw [parseR, if_pos ht]
theorem pR_client {t : List UInt8} {r : List (List UInt8)} {i : Nat} {L : List (List POp)} (hr : r ≠ []) (ht : t = sClient) : parseR (t :: r) i L = if 0 < chkP (L ++ [[]]) then ([], i + 1, 3) else parseR r (i + 1) (L ++ [[]]) := by
  cases r with
  | nil => exact absurd rfl hr
  | cons u ts => rw [parseR, if_pos ht]
theorem pR_bad {t : List UInt8} {r : List (List UInt8)} {i : Nat} {L : List (List POp)} (hr : r ≠ []) (ht : t ≠ sClient) (h : readP t = none ∨ L = []) : parseR (t :: r) i L = ([], i + 1, 5) := by
  cases r with
  | nil => exact absurd rfl hr
  | cons u ts =>
    rw [parseR, if_neg ht]
    cases hq : readP t with
    | none => rfl
    | some o =>
      rcases h with h | h
      · rw [hq] at h; cases h
      · simp [h]
theorem pR_op {t : List UInt8} {r : List (List UInt8)} {i : Nat} {L : List (List POp)} {o : POp} (hr : r ≠ []) (ht : t ≠ sClient) (h : readP t = some o) (hL : L ≠ []) : parseR (t :: r) i L = if 0 < chkP (lastApp L o) then ([], i + 1, 3) else parseR r (i + 1) (lastApp L o) := by
  cases r with
  | nil => exact absurd rfl hr
  | cons u ts =>
    rw [parseR, if_neg ht, h]
    simp only [if_neg hL]
theorem rcheck_lend (l : List (List POp)) (p : List POp) : FnIs Tryz.prog 36 [.own 0 0 (l.length + 1) 1 none] [(0, rowL p l (l.length + 1) 1), (1, rowP p)] (.d (i6 (chkP (l ++ [p])))) [(0, rowL p l (l.length + 1) 1), (1, rowP p)] := by
  refine FnIs.lend (avs' := [.d (encPL (l ++ [p]))]) ?_ (FreeRes.sc _) (rcheck_is (l ++ [p]))
  have hLl : (l ++ [p]).length = l.length + 1 := by simp
  refine Tells.freeze (avs' := [.own 0 0 (l.length + 1) 1 none]) (h0' := [(0, .ds 77 1 false encP (l ++ [p]))]) 1 (rowP p) rfl ⟨⟨_, rfl, .refl _⟩, trivial⟩ ⟨⟨rfl, _, rfl, FrzR.last (enc := encP) (xs := l) (y := p) rfl rfl rfl (fun _ => rfl) rfl⟩, trivial⟩ rfl ?_
  rw [← hLl]
  exact Tells.freeze (avs' := [.d (encPL (l ++ [p]))]) (h0' := []) 0 (.ds 77 1 false encP (l ++ [p])) rfl ⟨⟨_, rfl, Frz.own rfl⟩, trivial⟩ trivial rfl (.refl _ _)
theorem rparse_main (s : List UInt8) (hs : s.length ≤ 1048575) (W : List (List UInt8)) (hW : splitL s 10 = W) (N : Nat) (hN : W.length = N + 1) : FnIs Tryz.prog 50 [.d (strD s)] [] (rpR (parseR W 0 [])) [] := by
  have hd : decide (1048576 < (s.length : Int)) = false := decide_eq_false (by omega)
  have hcut : FnIs Tryz.prog 69 [.d (strD s), .int .u8 10] [] (.d (.arr 1 strD W)) [] := by
    have := rcut_is s 10 hs
    rw [hW] at this
    exact this
  have hWl : W.length ≤ s.length + 1 := by rw [← hW]; exact splitL_len s 10
  have hw25 : IntKind.i64.wrap ((W.length : Int) - 1) = (N : Int) := by rw [wrap_i64 (by omega) (by omega)]; omega
  refine fnIs_of tab_ok Tryz.func50 rfl rfl rfl ?_;refine sR ?_;iterate 3 refine rC ?_
  refine nQ ?_;refine sR ?_;refine rC ?_;refine rQ (len_s tab_ok rfl rfl) ?_;refine rC ?_;refine nS ?_;refine wF ?_;refine kS ?_;refine sR ?_;refine rC ?_;refine rQ (call_r hcut rfl rfl (arg_e (arg_e arg_nil)) (.inl rfl) (fun _ => rfl)) ?_
  refine rC ?_;refine nR ?_;refine rC ?_;refine nQ ?_;refine sR ?_;refine rC ?_;refine nS ?_;refine wc_block ?_
  refine wc_inv (qSt s W) (QInv W) (fun a => W.length - a.2) (none, 0) [] ⟨Nat.zero_le _, rfl, rfl⟩
    (.of rfl rfl rfl rfl rfl ⟨⟨_, rfl, .refl _⟩, rfl, ⟨_, rfl, .refl _⟩, rfl, ⟨_, rfl, .refl _⟩, rfl, trivial⟩ trivial) ?_
  rintro ⟨q, i⟩ ⟨hi, hp, hc0⟩
  clear hd
  cases q with
  | none =>
    by_cases hlt : i < W.length
    · obtain ⟨t, ht⟩ : ∃ t, W[i]? = some t := ⟨_, List.getElem?_eq_getElem hlt⟩
      have ht' : W[((i : Int)).toNat]? = some t := by rw [Int.toNat_natCast]; exact ht
      have h3 : decide ((i : Int) < (W.length : Int)) = true := decide_eq_true (by omega)
      have hdr := pR_drop ht
      rw [hdr] at hp
      have htl : t.length ≤ s.length := split_mem_le s 10 t (by rw [hW]; exact List.mem_of_getElem? ht)
      by_cases hiN : i = N
      · have hlast : decide ((i : Int) = (N : Int)) = true := decide_eq_true (by omega)
        have hr0 : W.drop (i + 1) = [] := List.drop_eq_nil_of_le (by omega)
        by_cases hte : t = []
        · have he : decide (t = []) = true := decide_eq_true hte
          rw [pR_end hr0 hte] at hp
          rw [← hp]
          refine wc_of ?_;refine qR ?_;iterate 2 refine rC ?_
          refine rQ iE ?_;refine rC ?_;refine nS ?_;refine wT ?_;refine kS ?_;refine wc_seq ?_;refine wc_block ?_;refine qR ?_;iterate 2 refine rC ?_
          refine rQ iE ?_;refine rQ (sub_int (m := (N : Int)) tab_ok rfl rfl hw25) ?_;iterate 2 refine rC ?_
          refine rO ?_;refine rC ?_;refine rO ?_;refine rC ?_;refine rO ?_;refine rQ iA ?_;refine rO ?_;refine rQ iL ?_;refine rO ?_;refine rQ (eql_s (a := t) (b := []) tab_ok rfl rfl rfl) ?_
          refine rQ iT ?_;refine nS ?_;refine wT ?_;refine wc_exit ?_;refine seq_x ?_;refine blk_y rfl ?_;refine seq_x ?_;refine loop_x ?_;refine blk_x ?_;refine seq_n ?_
          refine sR ?_;iterate 4 refine rC ?_
          refine nS ?_;refine wc_ret ?_
          exact ⟨trivial, [], .of rfl rfl rfl rfl rfl ⟨⟨_, rfl, rp_nil 0 0⟩, rfl, trivial⟩ trivial⟩
        · have he : decide (t = []) = false := decide_eq_false hte
          rw [pR_last hr0 hte] at hp
          rw [← hp]
          have hread := rread_is t (by omega)
          by_cases htc : t = sClient
          · have hc : decide (t = sClient) = true := decide_eq_true htc
            refine wc_of ?_;refine qR ?_;iterate 2 refine rC ?_
            refine rQ iE ?_;refine rC ?_;refine nS ?_;refine wT ?_;refine kS ?_;refine wc_seq ?_;refine wc_block ?_;refine qR ?_;iterate 2 refine rC ?_
            refine rQ iE ?_;refine rQ (sub_int (m := (N : Int)) tab_ok rfl rfl hw25) ?_;iterate 2 refine rC ?_
            refine rO ?_;refine rC ?_;refine rO ?_;refine rC ?_;refine rO ?_;refine rQ iA ?_;refine rO ?_;refine rQ iL ?_;refine rO ?_;refine rQ (eql_s (a := t) (b := []) tab_ok rfl rfl rfl) ?_
            refine rQ iT ?_;refine nS ?_;refine wF ?_;refine kS ?_;refine sR ?_;iterate 2 refine rC ?_
            refine rQ iA ?_;refine rQ iL ?_;refine rQ (call_r hread rfl rfl (arg_e arg_nil) (.inl rfl) (fun _ => rfl)) ?_;iterate 3 refine rC ?_
            refine rN ?_;refine rW ?_;refine rC ?_;refine nR ?_;refine rC ?_;refine nQ ?_;refine sR ?_;iterate 2 refine rC ?_
            refine rQ iA ?_;refine rQ iL ?_;refine rQ (eql_s (a := t) (b := sClient) tab_ok rfl rfl rfl) ?_;refine nS ?_;refine wT ?_;refine wc_region ?_;refine rC ?_;refine nQ ?_
            refine sR ?_;iterate 2 refine rC ?_
            refine rQ iE ?_;refine rQ (sub_int (m := (N : Int)) tab_ok rfl rfl hw25) ?_;iterate 2 refine rC ?_
            iterate 3 refine rS ?_
            iterate 7 refine rU ?_
            refine rS ?_;refine rQ iT ?_;refine nS ?_;refine wV ?_;refine sR ?_;refine rC ?_;refine rQ iD ?_;iterate 3 refine rC ?_
            refine nS ?_;refine wc_ret ?_;refine seq_r ?_;refine blk_r ?_;refine seq_r ?_;refine loop_r ?_;refine blk_r ?_;refine seq_r ?_
            exact ⟨trivial, [], .of rfl rfl rfl rfl rfl ⟨⟨_, rfl, rp_nil _ _⟩, rfl, trivial⟩ trivial⟩
          · have hc : decide (t = sClient) = false := decide_eq_false htc
            refine wc_of ?_;refine qR ?_;iterate 2 refine rC ?_
            refine rQ iE ?_;refine rC ?_;refine nS ?_;refine wT ?_;refine kS ?_;refine wc_seq ?_;refine wc_block ?_;refine qR ?_;iterate 2 refine rC ?_
            refine rQ iE ?_;refine rQ (sub_int (m := (N : Int)) tab_ok rfl rfl hw25) ?_;iterate 2 refine rC ?_
            refine rO ?_;refine rC ?_;refine rO ?_;refine rC ?_;refine rO ?_;refine rQ iA ?_;refine rO ?_;refine rQ iL ?_;refine rO ?_;refine rQ (eql_s (a := t) (b := []) tab_ok rfl rfl rfl) ?_
            refine rQ iT ?_;refine nS ?_;refine wF ?_;refine kS ?_;refine sR ?_;iterate 2 refine rC ?_
            refine rQ iA ?_;refine rQ iL ?_;refine rQ (call_r hread rfl rfl (arg_e arg_nil) (.inl rfl) (fun _ => rfl)) ?_;iterate 3 refine rC ?_
            refine rN ?_;refine rW ?_;refine rC ?_;refine nR ?_;refine rC ?_;refine nQ ?_;refine sR ?_;iterate 2 refine rC ?_
            refine rQ iA ?_;refine rQ iL ?_;refine rQ (eql_s (a := t) (b := sClient) tab_ok rfl rfl rfl) ?_;refine nS ?_;refine wF ?_;refine kS ?_;refine qR ?_;iterate 2 refine rC ?_
            refine rQ iE ?_;refine rQ (sub_int (m := (N : Int)) tab_ok rfl rfl hw25) ?_;iterate 2 refine rC ?_
            iterate 3 refine rS ?_
            iterate 7 refine rU ?_
            refine rS ?_;refine rQ iT ?_;refine nS ?_;refine wV ?_;refine sR ?_;refine rC ?_;refine rQ iD ?_;iterate 3 refine rC ?_
            refine nS ?_;refine wc_ret ?_;refine seq_r ?_;refine blk_r ?_;refine seq_r ?_;refine loop_r ?_;refine blk_r ?_;refine seq_r ?_
            exact ⟨trivial, [], .of rfl rfl rfl rfl rfl ⟨⟨_, rfl, rp_nil _ _⟩, rfl, trivial⟩ trivial⟩
      have hlast : decide ((i : Int) = (N : Int)) = false := decide_eq_false (by omega)
      have hrn : W.drop (i + 1) ≠ [] := fun e => by
        have := congrArg List.length e
        rw [List.length_drop, List.length_nil] at this
        omega
      have hread := rread_is t (by omega)
      by_cases htc : t = sClient
      · have hc : decide (t = sClient) = true := decide_eq_true htc
        rw [pR_client hrn htc] at hp
        have hchk := rcheck_is [[]]
        have hz : chkP [[]] = 0 := by decide
        rw [hz] at hchk
        rw [if_neg (by rw [show toL none ++ [[]] = [[]] from rfl, hz]; decide)] at hp
        refine wc_of ?_;refine qR ?_;iterate 2 refine rC ?_
        refine rQ iE ?_;refine rC ?_;refine nS ?_;refine wT ?_;refine kS ?_;refine wc_seq ?_;refine wc_block ?_;refine qR ?_;iterate 2 refine rC ?_
        refine rQ iE ?_;refine rQ (sub_int (m := (N : Int)) tab_ok rfl rfl hw25) ?_;iterate 2 refine rC ?_
        iterate 5 refine rS ?_
        refine rQ iF ?_;refine nS ?_;refine wG ?_;refine kS ?_;refine sR ?_;iterate 2 refine rC ?_
        refine rQ iA ?_;refine rQ iL ?_;refine rQ (call_r hread rfl rfl (arg_e arg_nil) (.inl rfl) (fun _ => rfl)) ?_;iterate 3 refine rC ?_
        refine rN ?_;refine rW ?_;refine rC ?_;refine nR ?_;refine rC ?_;refine nQ ?_;refine sR ?_;iterate 2 refine rC ?_
        refine rQ iA ?_;refine rQ iL ?_;refine rQ (eql_s (a := t) (b := sClient) tab_ok rfl rfl rfl) ?_;refine nS ?_;refine wT ?_;refine wc_region ?_;refine rC ?_;refine nQ ?_
        refine sR ?_;iterate 2 refine rC ?_
        refine rQ iE ?_;refine rQ (sub_int (m := (N : Int)) tab_ok rfl rfl hw25) ?_;iterate 2 refine rC ?_
        refine rO ?_;refine rC ?_;refine rO ?_;refine rC ?_;refine rO ?_;refine rC ?_;iterate 3 refine rT ?_
        iterate 3 refine rU ?_
        refine rT ?_;refine rO ?_;refine rQ iG ?_;refine rQ iF ?_;refine nS ?_;refine wG ?_;refine kS ?_;refine qR ?_;iterate 2 refine rC ?_
        refine nS ?_;refine wV ?_;refine wc_region ?_;refine rC ?_;refine reg_new (build_slice (s := 1) tab_ok rfl rfl rfl rfl rfl rfl rfl rfl) rfl ?_;refine reg_new (append_nil_one (s := 1) (enc := encO) tab_ok none rfl rfl rfl rfl rfl rfl rfl rfl) rfl ?_
        refine rC ?_;refine nR ?_;refine rC ?_;refine rQ (call_r hchk rfl rfl (arg_ownD (enc := encO) (xs := ([none] : List (Option (List POp)))) rfl rfl rfl (encO_le _ _ rfl) arg_nil) (.inr (PlainRes.sc _)) (fun _ => rfl)) ?_
        refine rC ?_;refine nS ?_;refine wG ?_;refine wc_skip ?_;refine blk_n ?_;refine seq_n ?_;refine wc_region ?_;refine rC ?_;refine rQ iD ?_;refine rC ?_;refine reg_nil ?_
        exact loop_n (some ([], []), i + 1) [(65, some _), (66, none)] ⟨hlt, hp, hz⟩ (by show W.length - (i + 1) < W.length - i; omega) (.of rfl rfl rfl rfl rfl ⟨⟨_, rfl, .refl _⟩, rfl, ⟨_, rfl, .refl _⟩, rfl, ⟨_, rfl, .refl _⟩, rfl, trivial⟩ ⟨⟨rfl, chM_lt rfl _, _, rfl, leaf_nil (l := []) (xs := []) rfl rfl rfl⟩, ⟨rfl, rfl, rfl⟩, trivial⟩)
      have hc : decide (t = sClient) = false := decide_eq_false htc
      cases hrd : readP t with
      | none =>
        rw [pR_bad hrn htc (.inl hrd)] at hp
        rw [← hp]
        rw [hrd] at hread
        refine wc_of ?_;refine qR ?_;iterate 2 refine rC ?_
        refine rQ iE ?_;refine rC ?_;refine nS ?_;refine wT ?_;refine kS ?_;refine wc_seq ?_;refine wc_block ?_;refine qR ?_;iterate 2 refine rC ?_
        refine rQ iE ?_;refine rQ (sub_int (m := (N : Int)) tab_ok rfl rfl hw25) ?_;iterate 2 refine rC ?_
        iterate 5 refine rS ?_
        refine rQ iF ?_;refine nS ?_;refine wG ?_;refine kS ?_;refine sR ?_;iterate 2 refine rC ?_
        refine rQ iA ?_;refine rQ iL ?_;refine rQ (call_r hread rfl rfl (arg_e arg_nil) (.inl rfl) (fun _ => rfl)) ?_;iterate 3 refine rC ?_
        refine rN ?_;refine rW ?_;refine rC ?_;refine nR ?_;refine rC ?_;refine nQ ?_;refine sR ?_;iterate 2 refine rC ?_
        refine rQ iA ?_;refine rQ iL ?_;refine rQ (eql_s (a := t) (b := sClient) tab_ok rfl rfl rfl) ?_;refine nS ?_;refine wF ?_;refine kS ?_;refine qR ?_;iterate 2 refine rC ?_
        refine rQ iE ?_;refine rQ (sub_int (m := (N : Int)) tab_ok rfl rfl hw25) ?_;iterate 2 refine rC ?_
        refine rO ?_;refine rC ?_;refine rO ?_;refine rC ?_;refine rO ?_;refine rC ?_;refine rP ?_;refine rC ?_;refine rP ?_;refine rC ?_;refine rP ?_;refine rC ?_;iterate 3 refine rT ?_
        refine rP ?_;refine rQ iU ?_;refine rO ?_;refine rQ iU ?_;refine rQ iF ?_;refine nS ?_;refine wV ?_;refine sR ?_;refine rC ?_;refine rQ iD ?_;iterate 3 refine rC ?_
        refine nS ?_;refine wc_ret ?_;refine seq_r ?_;refine blk_r ?_;refine seq_r ?_;refine loop_r ?_;refine blk_r ?_;refine seq_r ?_
        exact ⟨trivial, [], .of rfl rfl rfl rfl rfl ⟨⟨_, rfl, rp_nil _ _⟩, rfl, trivial⟩ trivial⟩
      | some o =>
        rw [hrd] at hread
        rw [pR_bad (L := toL none) hrn htc (.inr rfl)] at hp
        rw [← hp]
        refine wc_of ?_;refine qR ?_;iterate 2 refine rC ?_
        refine rQ iE ?_;refine rC ?_;refine nS ?_;refine wT ?_;refine kS ?_;refine wc_seq ?_;refine wc_block ?_;refine qR ?_;iterate 2 refine rC ?_
        refine rQ iE ?_;refine rQ (sub_int (m := (N : Int)) tab_ok rfl rfl hw25) ?_;iterate 2 refine rC ?_
        iterate 5 refine rS ?_
        refine rQ iF ?_;refine nS ?_;refine wG ?_;refine kS ?_;refine sR ?_;iterate 2 refine rC ?_
        refine rQ iA ?_;refine rQ iL ?_;refine rQ (call_r hread rfl rfl (arg_e arg_nil) (.inl rfl) (fun _ => rfl)) ?_;iterate 3 refine rC ?_
        refine rN ?_;refine rW ?_;refine rC ?_;refine nR ?_;refine rC ?_;refine nQ ?_;refine sR ?_;iterate 2 refine rC ?_
        refine rQ iA ?_;refine rQ iL ?_;refine rQ (eql_s (a := t) (b := sClient) tab_ok rfl rfl rfl) ?_;refine nS ?_;refine wF ?_;refine kS ?_;refine qR ?_;iterate 2 refine rC ?_
        refine rQ iE ?_;refine rQ (sub_int (m := (N : Int)) tab_ok rfl rfl hw25) ?_;iterate 2 refine rC ?_
        refine rO ?_;refine rC ?_;refine rO ?_;refine rC ?_;refine rO ?_;refine rC ?_;refine rP ?_;refine rC ?_;refine rP ?_;refine rC ?_;refine rP ?_;refine rC ?_;refine rP ?_
        refine rC ?_;refine rP ?_;refine rQ (len_nil tab_ok rfl rfl) ?_;refine rP ?_;refine rC ?_;refine rP ?_;refine rQ iG ?_;refine rO ?_;refine rQ iU ?_;refine rQ iF ?_
        refine nS ?_;refine wV ?_;refine sR ?_;refine rC ?_;refine rQ iD ?_;iterate 3 refine rC ?_
        refine nS ?_;refine wc_ret ?_;refine seq_r ?_;refine blk_r ?_;refine seq_r ?_;refine loop_r ?_;refine blk_r ?_;refine seq_r ?_
        exact ⟨trivial, [], .of rfl rfl rfl rfl rfl ⟨⟨_, rfl, rp_nil _ _⟩, rfl, trivial⟩ trivial⟩
    · have hge : W.drop i = [] := List.drop_eq_nil_of_le (by omega)
      have h3 : decide ((i : Int) < (W.length : Int)) = false := decide_eq_false (by omega)
      rw [hge] at hp
      rw [← hp]
      refine wc_of ?_;refine qR ?_;iterate 2 refine rC ?_
      refine rQ iE ?_;refine rC ?_;refine nS ?_;refine wF ?_;refine wc_exit ?_;refine seq_x ?_;refine loop_x ?_;refine blk_x ?_;refine seq_n ?_;refine sR ?_;iterate 4 refine rC ?_
      refine nS ?_;refine wc_ret ?_
      exact ⟨trivial, [], .of rfl rfl rfl rfl rfl ⟨⟨_, rfl, rp_nil 0 0⟩, rfl, trivial⟩ trivial⟩
  | some lp =>
    obtain ⟨l, p⟩ := lp
    have hLl : (l ++ [p]).length = l.length + 1 := by simp
    obtain ⟨k1, k2⟩ := chkP_ok.1 hc0
    have hl8 : l.length + 1 ≤ 8 := by simpa [toL] using k1
    have hp64 : p.length ≤ 64 := by
      have := k2 p (by simp [toL])
      simp only [badP, Bool.or_eq_false_iff, decide_eq_false_iff_not] at this
      omega
    have hLz : decide (((l.length + 1 : Nat) : Int) = 0) = false := decide_eq_false (by omega)
    clear k1 k2
    by_cases hlt : i < W.length
    · obtain ⟨t, ht⟩ : ∃ t, W[i]? = some t := ⟨_, List.getElem?_eq_getElem hlt⟩
      have ht' : W[((i : Int)).toNat]? = some t := by rw [Int.toNat_natCast]; exact ht
      have h3 : decide ((i : Int) < (W.length : Int)) = true := decide_eq_true (by omega)
      have hdr := pR_drop ht
      rw [hdr] at hp
      have htl : t.length ≤ s.length := split_mem_le s 10 t (by rw [hW]; exact List.mem_of_getElem? ht)
      by_cases hiN : i = N
      · have hlast : decide ((i : Int) = (N : Int)) = true := decide_eq_true (by omega)
        have hr0 : W.drop (i + 1) = [] := List.drop_eq_nil_of_le (by omega)
        by_cases hte : t = []
        · have he : decide (t = []) = true := decide_eq_true hte
          rw [pR_end hr0 hte] at hp
          rw [← hp]
          refine wc_of ?_;refine wc_freeze (env' := [(7, _), (6, _), (5, _)]) (h' := [(65, some _)]) 66 _ rfl ⟨⟨_, rfl, .refl _⟩, ⟨_, rfl, .refl _⟩, ⟨_, rfl, .refl _⟩, trivial⟩ ⟨⟨rfl, _, rfl, FrzR.last (enc := encP) (xs := l) (y := p) rfl rfl rfl (fun _ => rfl) rfl⟩, trivial⟩ ?_
          refine wc_freeze (env' := [(6, _), (7, _), (5, _)]) (h' := []) 65 _ rfl ⟨⟨_, rfl, Frz.own hLl.symm⟩, ⟨_, rfl, .refl _⟩, ⟨_, rfl, .refl _⟩, trivial⟩ trivial ?_;refine qR ?_
          iterate 2 refine rC ?_
          refine rQ iE ?_;refine rC ?_;refine nS ?_;refine wT ?_;refine kS ?_;refine wc_seq ?_;refine wc_block ?_;refine qR ?_;iterate 2 refine rC ?_
          refine rQ iE ?_;refine rQ (sub_int (m := (N : Int)) tab_ok rfl rfl hw25) ?_;iterate 2 refine rC ?_
          refine rO ?_;refine rC ?_;refine rO ?_;refine rC ?_;refine rO ?_;refine rQ iA ?_;refine rO ?_;refine rQ iL ?_;refine rO ?_;refine rQ (eql_s (a := t) (b := []) tab_ok rfl rfl rfl) ?_
          refine rQ iT ?_;refine nS ?_;refine wT ?_;refine wc_exit ?_;refine seq_x ?_;refine blk_y rfl ?_;refine seq_x ?_;refine loop_x ?_;refine blk_x ?_;refine seq_n ?_
          refine sR ?_;iterate 4 refine rC ?_
          refine nS ?_;refine wc_ret ?_
          exact ⟨trivial, [], lf⟩
        · have he : decide (t = []) = false := decide_eq_false hte
          rw [pR_last hr0 hte] at hp
          rw [← hp]
          have hread := rread_is t (by omega)
          by_cases htc : t = sClient
          · have hc : decide (t = sClient) = true := decide_eq_true htc
            refine wc_of ?_;refine qR ?_;iterate 2 refine rC ?_
            refine rQ iE ?_;refine rC ?_;refine nS ?_;refine wT ?_;refine kS ?_;refine wc_seq ?_;refine wc_block ?_;refine qR ?_;iterate 2 refine rC ?_
            refine rQ iE ?_;refine rQ (sub_int (m := (N : Int)) tab_ok rfl rfl hw25) ?_;iterate 2 refine rC ?_
            refine rO ?_;refine rC ?_;refine rO ?_;refine rC ?_;refine rO ?_;refine rQ iA ?_;refine rO ?_;refine rQ iL ?_;refine rO ?_;refine rQ (eql_s (a := t) (b := []) tab_ok rfl rfl rfl) ?_
            refine rQ iT ?_;refine nS ?_;refine wF ?_;refine kS ?_;refine sR ?_;iterate 2 refine rC ?_
            refine rQ iA ?_;refine rQ iL ?_;refine rQ (call_r hread rfl rfl (arg_e arg_nil) (.inl rfl) (fun _ => rfl)) ?_;iterate 3 refine rC ?_
            refine rN ?_;refine rW ?_;refine rC ?_;refine nR ?_;refine rC ?_;refine nQ ?_;refine sR ?_;iterate 2 refine rC ?_
            refine rQ iA ?_;refine rQ iL ?_;refine rQ (eql_s (a := t) (b := sClient) tab_ok rfl rfl rfl) ?_;refine nS ?_;refine wT ?_;refine wc_region ?_;refine rC ?_;refine nQ ?_
            refine sR ?_;iterate 2 refine rC ?_
            refine rQ iE ?_;refine rQ (sub_int (m := (N : Int)) tab_ok rfl rfl hw25) ?_;iterate 2 refine rC ?_
            iterate 3 refine rS ?_
            iterate 7 refine rU ?_
            refine rS ?_;refine rQ iT ?_;refine nS ?_;refine wV ?_;refine sR ?_;refine rC ?_;refine rQ iD ?_;iterate 3 refine rC ?_
            refine nS ?_;refine wc_ret ?_;refine seq_r ?_;refine blk_r ?_;refine seq_r ?_;refine loop_r ?_;refine blk_r ?_;refine seq_r ?_
            exact ⟨trivial, [], .of rfl rfl rfl rfl rfl ⟨⟨_, rfl, rp_nil _ _⟩, rfl, trivial⟩ trivial⟩
          · have hc : decide (t = sClient) = false := decide_eq_false htc
            refine wc_of ?_;refine qR ?_;iterate 2 refine rC ?_
            refine rQ iE ?_;refine rC ?_;refine nS ?_;refine wT ?_;refine kS ?_;refine wc_seq ?_;refine wc_block ?_;refine qR ?_;iterate 2 refine rC ?_
            refine rQ iE ?_;refine rQ (sub_int (m := (N : Int)) tab_ok rfl rfl hw25) ?_;iterate 2 refine rC ?_
            refine rO ?_;refine rC ?_;refine rO ?_;refine rC ?_;refine rO ?_;refine rQ iA ?_;refine rO ?_;refine rQ iL ?_;refine rO ?_;refine rQ (eql_s (a := t) (b := []) tab_ok rfl rfl rfl) ?_
            refine rQ iT ?_;refine nS ?_;refine wF ?_;refine kS ?_;refine sR ?_;iterate 2 refine rC ?_
            refine rQ iA ?_;refine rQ iL ?_;refine rQ (call_r hread rfl rfl (arg_e arg_nil) (.inl rfl) (fun _ => rfl)) ?_;iterate 3 refine rC ?_
            refine rN ?_;refine rW ?_;refine rC ?_;refine nR ?_;refine rC ?_;refine nQ ?_;refine sR ?_;iterate 2 refine rC ?_
            refine rQ iA ?_;refine rQ iL ?_;refine rQ (eql_s (a := t) (b := sClient) tab_ok rfl rfl rfl) ?_;refine nS ?_;refine wF ?_;refine kS ?_;refine qR ?_;iterate 2 refine rC ?_
            refine rQ iE ?_;refine rQ (sub_int (m := (N : Int)) tab_ok rfl rfl hw25) ?_;iterate 2 refine rC ?_
            iterate 3 refine rS ?_
            iterate 7 refine rU ?_
            refine rS ?_;refine rQ iT ?_;refine nS ?_;refine wV ?_;refine sR ?_;refine rC ?_;refine rQ iD ?_;iterate 3 refine rC ?_
            refine nS ?_;refine wc_ret ?_;refine seq_r ?_;refine blk_r ?_;refine seq_r ?_;refine loop_r ?_;refine blk_r ?_;refine seq_r ?_
            exact ⟨trivial, [], .of rfl rfl rfl rfl rfl ⟨⟨_, rfl, rp_nil _ _⟩, rfl, trivial⟩ trivial⟩
      have hlast : decide ((i : Int) = (N : Int)) = false := decide_eq_false (by omega)
      have hrn : W.drop (i + 1) ≠ [] := fun e => by
        have := congrArg List.length e
        rw [List.length_drop, List.length_nil] at this
        omega
      have hread := rread_is t (by omega)
      by_cases htc : t = sClient
      · have hc : decide (t = sClient) = true := decide_eq_true htc
        rw [pR_client hrn htc] at hp
        have hL2 : l.length + 1 = (l.map some ++ [some p]).length := by simp
        have hlen2 : (l.map some ++ [some p]).length + [(none : Option (List POp))].length ≤ 1048576 := by simp; omega
        have hl3 : (l.map some ++ [some p]).length + [(none : Option (List POp))].length = (l.map some ++ [some p] ++ [none]).length := by simp
        have hmap3 : (l.map some ++ [some p] ++ [none]).map (fun o : Option (List POp) => o.getD []) = l ++ [p] ++ [[]] := by simp [Function.comp_def]
        have hchk := rcheck_is (l ++ [p] ++ [[]])
        rw [show toL (some (l, p)) ++ [[]] = l ++ [p] ++ [[]] from rfl] at hp
        refine wc_of ?_;refine wc_freeze (env' := [(7, _), (6, _), (5, _)]) (h' := [(65, some _)]) 66 _ rfl ⟨⟨_, rfl, .refl _⟩, ⟨_, rfl, .refl _⟩, ⟨_, rfl, .refl _⟩, trivial⟩ ⟨⟨rfl, _, rfl, FrzR.last (enc := encO) (xs := l.map some) (y := some p) rfl rfl (by simp) encO_size (mapO l)⟩, trivial⟩ ?_
        rcases chkP_cases (l ++ [p] ++ [[]]) with hz | hz
        · rw [hz] at hchk
          rw [if_neg (by rw [hz]; decide)] at hp
          have e1 : (l.map some ++ [some p]).length + [(none : Option (List POp))].length = (l ++ [p]).length + 1 := by simp
          have e2 : l.map some ++ [some p] ++ [none] = (l ++ [p]).map some ++ [none] := by simp
          refine qR ?_;iterate 2 refine rC ?_
          refine rQ iE ?_;refine rC ?_;refine nS ?_;refine wT ?_;refine kS ?_;refine wc_seq ?_;refine wc_block ?_;refine qR ?_;iterate 2 refine rC ?_
          refine rQ iE ?_;refine rQ (sub_int (m := (N : Int)) tab_ok rfl rfl hw25) ?_;iterate 2 refine rC ?_
          iterate 5 refine rS ?_
          refine rQ iF ?_;refine nS ?_;refine wG ?_;refine kS ?_;refine sR ?_;iterate 2 refine rC ?_
          refine rQ iA ?_;refine rQ iL ?_;refine rQ (call_r hread rfl rfl (arg_e arg_nil) (.inl rfl) (fun _ => rfl)) ?_;iterate 3 refine rC ?_
          refine rN ?_;refine rW ?_;refine rC ?_;refine nR ?_;refine rC ?_;refine nQ ?_;refine sR ?_;iterate 2 refine rC ?_
          refine rQ iA ?_;refine rQ iL ?_;refine rQ (eql_s (a := t) (b := sClient) tab_ok rfl rfl rfl) ?_;refine nS ?_;refine wT ?_;refine wc_region ?_;refine rC ?_;refine nQ ?_
          refine sR ?_;iterate 2 refine rC ?_
          refine rQ iE ?_;refine rQ (sub_int (m := (N : Int)) tab_ok rfl rfl hw25) ?_;iterate 2 refine rC ?_
          refine rO ?_;refine rC ?_;refine rO ?_;refine rC ?_;refine rO ?_;refine rC ?_;iterate 3 refine rT ?_
          iterate 3 refine rU ?_
          refine rT ?_;refine rO ?_;refine rQ iG ?_;refine rQ iF ?_;refine nS ?_;refine wG ?_;refine kS ?_;refine qR ?_;iterate 2 refine rC ?_
          refine nS ?_;refine wV ?_;refine wc_region ?_;refine rC ?_;refine reg_new (build_slice (s := 1) tab_ok rfl rfl rfl rfl rfl rfl rfl rfl) rfl ?_;refine reg_new2 (append_litsL (α := Option (List POp)) (s := 1) (enc := encO) (xs := l.map some ++ [some p]) tab_ok [none] rfl rfl rfl rfl rfl hL2 rfl rfl rfl rfl (fun _ _ => encO_size _) (by decide) hlen2 rfl) rfl ?_
          refine rC ?_;refine nR ?_;refine rC ?_;refine rQ (call_r hchk rfl rfl (arg_ownD (enc := encO) (xs := l.map some ++ [some p] ++ [none]) rfl hl3 rfl (encO_le _ _ hmap3) arg_nil) (.inr (PlainRes.sc _)) (fun _ => rfl)) ?_
          refine rC ?_;refine nS ?_;refine wG ?_;refine wc_skip ?_;refine blk_n ?_;refine seq_n ?_;refine wc_region ?_;refine rC ?_;refine rQ iD ?_;refine rC ?_;refine reg_nil ?_
          rw [e1, e2]
          exact loop_n (some (l ++ [p], []), i + 1) [(65, some _), (66, none)] ⟨hlt, hp, hz⟩ (by show W.length - (i + 1) < W.length - i; omega) (.of rfl rfl rfl rfl rfl ⟨⟨_, rfl, .refl _⟩, rfl, ⟨_, rfl, .refl _⟩, rfl, ⟨_, rfl, .refl _⟩, rfl, trivial⟩ ⟨⟨rfl, chM_lt rfl _, _, rfl, leaf_nil rfl rfl rfl⟩, ⟨rfl, rfl, rfl⟩, trivial⟩)
        · rw [hz] at hchk
          rw [if_pos (by rw [hz]; decide)] at hp
          rw [← hp]
          refine qR ?_;iterate 2 refine rC ?_
          refine rQ iE ?_;refine rC ?_;refine nS ?_;refine wT ?_;refine kS ?_;refine wc_seq ?_;refine wc_block ?_;refine qR ?_;iterate 2 refine rC ?_
          refine rQ iE ?_;refine rQ (sub_int (m := (N : Int)) tab_ok rfl rfl hw25) ?_;iterate 2 refine rC ?_
          iterate 5 refine rS ?_
          refine rQ iF ?_;refine nS ?_;refine wG ?_;refine kS ?_;refine sR ?_;iterate 2 refine rC ?_
          refine rQ iA ?_;refine rQ iL ?_;refine rQ (call_r hread rfl rfl (arg_e arg_nil) (.inl rfl) (fun _ => rfl)) ?_;iterate 3 refine rC ?_
          refine rN ?_;refine rW ?_;refine rC ?_;refine nR ?_;refine rC ?_;refine nQ ?_;refine sR ?_;iterate 2 refine rC ?_
          refine rQ iA ?_;refine rQ iL ?_;refine rQ (eql_s (a := t) (b := sClient) tab_ok rfl rfl rfl) ?_;refine nS ?_;refine wT ?_;refine wc_region ?_;refine rC ?_;refine nQ ?_
          refine sR ?_;iterate 2 refine rC ?_
          refine rQ iE ?_;refine rQ (sub_int (m := (N : Int)) tab_ok rfl rfl hw25) ?_;iterate 2 refine rC ?_
          refine rO ?_;refine rC ?_;refine rO ?_;refine rC ?_;refine rO ?_;refine rC ?_;iterate 3 refine rT ?_
          iterate 3 refine rU ?_
          refine rT ?_;refine rO ?_;refine rQ iG ?_;refine rQ iF ?_;refine nS ?_;refine wG ?_;refine kS ?_;refine qR ?_;iterate 2 refine rC ?_
          refine nS ?_;refine wV ?_;refine wc_region ?_;refine rC ?_;refine reg_new (build_slice (s := 1) tab_ok rfl rfl rfl rfl rfl rfl rfl rfl) rfl ?_;refine reg_new2 (append_litsL (α := Option (List POp)) (s := 1) (enc := encO) (xs := l.map some ++ [some p]) tab_ok [none] rfl rfl rfl rfl rfl hL2 rfl rfl rfl rfl (fun _ _ => encO_size _) (by decide) hlen2 rfl) rfl ?_
          refine rC ?_;refine nR ?_;refine rC ?_;refine rQ (call_r hchk rfl rfl (arg_ownD (enc := encO) (xs := l.map some ++ [some p] ++ [none]) rfl hl3 rfl (encO_le _ _ hmap3) arg_nil) (.inr (PlainRes.sc _)) (fun _ => rfl)) ?_
          refine rC ?_;refine nS ?_;refine wV ?_;refine sR ?_;refine rC ?_;refine rQ iD ?_;iterate 3 refine rC ?_
          refine nS ?_;refine wc_ret ?_;refine blk_r ?_;refine seq_r ?_;refine loop_r ?_;refine blk_r ?_;refine seq_r ?_
          exact ⟨trivial, [], .of rfl rfl rfl rfl rfl ⟨⟨_, rfl, rp_nil _ _⟩, rfl, trivial⟩ trivial⟩
      have hc : decide (t = sClient) = false := decide_eq_false htc
      cases hrd : readP t with
      | none =>
        rw [pR_bad hrn htc (.inl hrd)] at hp
        rw [← hp]
        rw [hrd] at hread
        refine wc_of ?_;refine qR ?_;iterate 2 refine rC ?_
        refine rQ iE ?_;refine rC ?_;refine nS ?_;refine wT ?_;refine kS ?_;refine wc_seq ?_;refine wc_block ?_;refine qR ?_;iterate 2 refine rC ?_
        refine rQ iE ?_;refine rQ (sub_int (m := (N : Int)) tab_ok rfl rfl hw25) ?_;iterate 2 refine rC ?_
        iterate 5 refine rS ?_
        refine rQ iF ?_;refine nS ?_;refine wG ?_;refine kS ?_;refine sR ?_;iterate 2 refine rC ?_
        refine rQ iA ?_;refine rQ iL ?_;refine rQ (call_r hread rfl rfl (arg_e arg_nil) (.inl rfl) (fun _ => rfl)) ?_;iterate 3 refine rC ?_
        refine rN ?_;refine rW ?_;refine rC ?_;refine nR ?_;refine rC ?_;refine nQ ?_;refine sR ?_;iterate 2 refine rC ?_
        refine rQ iA ?_;refine rQ iL ?_;refine rQ (eql_s (a := t) (b := sClient) tab_ok rfl rfl rfl) ?_;refine nS ?_;refine wF ?_;refine kS ?_;refine qR ?_;iterate 2 refine rC ?_
        refine rQ iE ?_;refine rQ (sub_int (m := (N : Int)) tab_ok rfl rfl hw25) ?_;iterate 2 refine rC ?_
        refine rO ?_;refine rC ?_;refine rO ?_;refine rC ?_;refine rO ?_;refine rC ?_;refine rP ?_;refine rC ?_;refine rP ?_;refine rC ?_;refine rP ?_;refine rC ?_;iterate 3 refine rT ?_
        refine rP ?_;refine rQ iU ?_;refine rO ?_;refine rQ iU ?_;refine rQ iF ?_;refine nS ?_;refine wV ?_;refine sR ?_;refine rC ?_;refine rQ iD ?_;iterate 3 refine rC ?_
        refine nS ?_;refine wc_ret ?_;refine seq_r ?_;refine blk_r ?_;refine seq_r ?_;refine loop_r ?_;refine blk_r ?_;refine seq_r ?_
        exact ⟨trivial, [], .of rfl rfl rfl rfl rfl ⟨⟨_, rfl, rp_nil _ _⟩, rfl, trivial⟩ trivial⟩
      | some o =>
        rw [hrd] at hread
        rw [pR_op hrn htc hrd (by simp [toL]), show lastApp (toL (some (l, p))) o = l ++ [p ++ [o]] from lastApp_snoc l p o] at hp
        have hlend := rcheck_lend l (p ++ [o])
        have hw75 : IntKind.i64.wrap (((l.length + 1 : Nat) : Int) - 1) = (l.length : Int) := by rw [wrap_i64 (by omega) (by omega)]; omega
        have hsz : ∀ d ∈ l.map encP, d.size = 1 := fun d hd => by
          obtain ⟨x, _, rfl⟩ := List.mem_map.1 hd
          rfl
        have hmm : l.length + 1 = (l.map encP).length + 1 := by simp
        have hml : (l.map encP).length = l.length := by simp
        have hpn : p.length + 1 = (p ++ [o]).length := by simp
        have hpl : p.length + 1 ≤ 1048576 := by omega
        rcases chkP_cases (l ++ [p ++ [o]]) with hz | hz
        · rw [hz] at hlend
          rw [if_neg (by rw [hz]; decide)] at hp
          refine wc_of ?_;refine qR ?_;iterate 2 refine rC ?_
          refine rQ iE ?_;refine rC ?_;refine nS ?_;refine wT ?_;refine kS ?_;refine wc_seq ?_;refine wc_block ?_;refine qR ?_;iterate 2 refine rC ?_
          refine rQ iE ?_;refine rQ (sub_int (m := (N : Int)) tab_ok rfl rfl hw25) ?_;iterate 2 refine rC ?_
          iterate 5 refine rS ?_
          refine rQ iF ?_;refine nS ?_;refine wG ?_;refine kS ?_;refine sR ?_;iterate 2 refine rC ?_
          refine rQ iA ?_;refine rQ iL ?_;refine rQ (call_r hread rfl rfl (arg_e arg_nil) (.inl rfl) (fun _ => rfl)) ?_;iterate 3 refine rC ?_
          refine rN ?_;refine rW ?_;refine rC ?_;refine nR ?_;refine rC ?_;refine nQ ?_;refine sR ?_;iterate 2 refine rC ?_
          refine rQ iA ?_;refine rQ iL ?_;refine rQ (eql_s (a := t) (b := sClient) tab_ok rfl rfl rfl) ?_;refine nS ?_;refine wF ?_;refine kS ?_;refine qR ?_;iterate 2 refine rC ?_
          refine rQ iE ?_;refine rQ (sub_int (m := (N : Int)) tab_ok rfl rfl hw25) ?_;iterate 2 refine rC ?_
          refine rO ?_;refine rC ?_;refine rO ?_;refine rC ?_;refine rO ?_;refine rC ?_;refine rP ?_;refine rC ?_;refine rP ?_;refine rC ?_;refine rP ?_;refine rC ?_;refine rP ?_
          refine rC ?_;refine rP ?_;refine rQ (len_own tab_ok rfl rfl) ?_;refine rP ?_;refine rC ?_;refine rP ?_;refine rQ iG ?_;refine rO ?_;refine rQ iU ?_;refine rQ iF ?_
          refine nS ?_;refine wG ?_;refine kS ?_;refine qR ?_;iterate 2 refine rC ?_
          refine nS ?_;refine wG ?_;refine wc_draw (by kernel_rfl) ?_;iterate 2 refine dC [6] [65] ?_
          refine dQ [73] [65] (len_own tab_ok rfl rfl) ?_;refine dQ [74] [] (sub_int (m := (l.length : Int)) tab_ok rfl rfl hw75) ?_;iterate 2 refine dC [6] [65] ?_
          refine dQ [77] [65] (len_own tab_ok rfl rfl) ?_;refine dQ [78] [] (sub_int (m := (l.length : Int)) tab_ok rfl rfl hw75) ?_;refine dQ [76, 79] [65] (index_own tab_ok rfl rfl rfl rfl rfl (by omega) (by omega)) ?_
          refine dQ [80] [65] (load_row tab_ok rfl rfl (rsub_last (s := 1) (A := .own 66 0 p.length 3 none) hsz hmm ((Int.toNat_natCast _).trans hml.symm)) rfl) ?_;refine dQ [8] [264] iM ?_
          refine dreg_w [82] [] rfl (build_slice (s := 3) tab_ok rfl rfl rfl rfl rfl rfl rfl rfl) ?_;refine dreg_w2 [81, 83] [66, 584] rfl (append_one (xs := p) (s := 3) (enc := encPOp) tab_ok o rfl rfl rfl rfl rfl rfl rfl rfl rfl hpl rfl) ?_
          refine dQ [72, 75] [65] (index_own tab_ok rfl rfl rfl rfl rfl (by omega) (by omega)) ?_;refine dreg_s [85, 84] [65, 592] (store_row tab_ok rfl rfl rfl (rupd_last (s := 1) hsz hmm ((Int.toNat_natCast _).trans hml.symm) rfl rfl) rfl) ?_
          refine dreg_end (by kernel_rfl) ?_;refine seq_n ?_;refine sR ?_;refine rC ?_;refine reg_do rfl (call_h [(0, some 65), (1, some _)] hlend rfl rfl rfl (arg_give rfl rfl arg_nil) ⟨⟨rfl, chM_lt rfl _, _, _, rfl, rfl, leaf_len rfl hpn rfl⟩, ⟨rfl, rfl, _, _, rfl, rfl, .refl _⟩, trivial⟩ rfl rfl (.inl rfl) rfl rfl) rfl rfl ?_
          refine rC ?_;refine nS ?_;refine wG ?_;refine wc_skip ?_;refine blk_n ?_;refine seq_n ?_;refine wc_region ?_;refine rC ?_;refine rQ iD ?_;refine rC ?_;refine reg_nil ?_
          exact loop_n (some (l, p ++ [o]), i + 1) [(66, some _)] ⟨hlt, hp, hz⟩ (by show W.length - (i + 1) < W.length - i; omega) (.of rfl rfl rfl rfl rfl ⟨⟨_, rfl, .refl _⟩, rfl, ⟨_, rfl, .refl _⟩, rfl, ⟨_, rfl, .refl _⟩, rfl, trivial⟩ ⟨⟨rfl, chM_lt rfl _, _, rfl, leaf_ren rfl rfl rfl⟩, ⟨rfl, rfl, _, rfl, .refl _⟩, trivial⟩)
        · rw [hz] at hlend
          rw [if_pos (by rw [hz]; decide)] at hp
          rw [← hp]
          refine wc_of ?_;refine qR ?_;iterate 2 refine rC ?_
          refine rQ iE ?_;refine rC ?_;refine nS ?_;refine wT ?_;refine kS ?_;refine wc_seq ?_;refine wc_block ?_;refine qR ?_;iterate 2 refine rC ?_
          refine rQ iE ?_;refine rQ (sub_int (m := (N : Int)) tab_ok rfl rfl hw25) ?_;iterate 2 refine rC ?_
          iterate 5 refine rS ?_
          refine rQ iF ?_;refine nS ?_;refine wG ?_;refine kS ?_;refine sR ?_;iterate 2 refine rC ?_
          refine rQ iA ?_;refine rQ iL ?_;refine rQ (call_r hread rfl rfl (arg_e arg_nil) (.inl rfl) (fun _ => rfl)) ?_;iterate 3 refine rC ?_
          refine rN ?_;refine rW ?_;refine rC ?_;refine nR ?_;refine rC ?_;refine nQ ?_;refine sR ?_;iterate 2 refine rC ?_
          refine rQ iA ?_;refine rQ iL ?_;refine rQ (eql_s (a := t) (b := sClient) tab_ok rfl rfl rfl) ?_;refine nS ?_;refine wF ?_;refine kS ?_;refine qR ?_;iterate 2 refine rC ?_
          refine rQ iE ?_;refine rQ (sub_int (m := (N : Int)) tab_ok rfl rfl hw25) ?_;iterate 2 refine rC ?_
          refine rO ?_;refine rC ?_;refine rO ?_;refine rC ?_;refine rO ?_;refine rC ?_;refine rP ?_;refine rC ?_;refine rP ?_;refine rC ?_;refine rP ?_;refine rC ?_;refine rP ?_
          refine rC ?_;refine rP ?_;refine rQ (len_own tab_ok rfl rfl) ?_;refine rP ?_;refine rC ?_;refine rP ?_;refine rQ iG ?_;refine rO ?_;refine rQ iU ?_;refine rQ iF ?_
          refine nS ?_;refine wG ?_;refine kS ?_;refine qR ?_;iterate 2 refine rC ?_
          refine nS ?_;refine wG ?_;refine wc_draw (by kernel_rfl) ?_;iterate 2 refine dC [6] [65] ?_
          refine dQ [73] [65] (len_own tab_ok rfl rfl) ?_;refine dQ [74] [] (sub_int (m := (l.length : Int)) tab_ok rfl rfl hw75) ?_;iterate 2 refine dC [6] [65] ?_
          refine dQ [77] [65] (len_own tab_ok rfl rfl) ?_;refine dQ [78] [] (sub_int (m := (l.length : Int)) tab_ok rfl rfl hw75) ?_;refine dQ [76, 79] [65] (index_own tab_ok rfl rfl rfl rfl rfl (by omega) (by omega)) ?_
          refine dQ [80] [65] (load_row tab_ok rfl rfl (rsub_last (s := 1) (A := .own 66 0 p.length 3 none) hsz hmm ((Int.toNat_natCast _).trans hml.symm)) rfl) ?_;refine dQ [8] [264] iM ?_
          refine dreg_w [82] [] rfl (build_slice (s := 3) tab_ok rfl rfl rfl rfl rfl rfl rfl rfl) ?_;refine dreg_w2 [81, 83] [66, 584] rfl (append_one (xs := p) (s := 3) (enc := encPOp) tab_ok o rfl rfl rfl rfl rfl rfl rfl rfl rfl hpl rfl) ?_
          refine dQ [72, 75] [65] (index_own tab_ok rfl rfl rfl rfl rfl (by omega) (by omega)) ?_;refine dreg_s [85, 84] [65, 592] (store_row tab_ok rfl rfl rfl (rupd_last (s := 1) hsz hmm ((Int.toNat_natCast _).trans hml.symm) rfl rfl) rfl) ?_
          refine dreg_end (by kernel_rfl) ?_;refine seq_n ?_;refine sR ?_;refine rC ?_;refine reg_do rfl (call_h [(0, some 65), (1, some _)] hlend rfl rfl rfl (arg_give rfl rfl arg_nil) ⟨⟨rfl, chM_lt rfl _, _, _, rfl, rfl, leaf_len rfl hpn rfl⟩, ⟨rfl, rfl, _, _, rfl, rfl, .refl _⟩, trivial⟩ rfl rfl (.inl rfl) rfl rfl) rfl rfl ?_
          refine rC ?_;refine nS ?_;refine wV ?_;refine sR ?_;refine rC ?_;refine rQ iD ?_;iterate 3 refine rC ?_
          refine nS ?_;refine wc_ret ?_;refine blk_r ?_;refine seq_r ?_;refine loop_r ?_;refine blk_r ?_;refine seq_r ?_
          exact ⟨trivial, [], .of rfl rfl rfl rfl rfl ⟨⟨_, rfl, rp_nil _ _⟩, rfl, trivial⟩ trivial⟩
    · have hge : W.drop i = [] := List.drop_eq_nil_of_le (by omega)
      have h3 : decide ((i : Int) < (W.length : Int)) = false := decide_eq_false (by omega)
      rw [hge] at hp
      rw [← hp]
      refine wc_of ?_;refine wc_freeze (env' := [(7, _), (6, _), (5, _)]) (h' := [(65, some _)]) 66 _ rfl ⟨⟨_, rfl, .refl _⟩, ⟨_, rfl, .refl _⟩, ⟨_, rfl, .refl _⟩, trivial⟩ ⟨⟨rfl, _, rfl, FrzR.last (enc := encP) (xs := l) (y := p) rfl rfl rfl (fun _ => rfl) rfl⟩, trivial⟩ ?_
      refine wc_freeze (env' := [(6, _), (7, _), (5, _)]) (h' := []) 65 _ rfl ⟨⟨_, rfl, Frz.own hLl.symm⟩, ⟨_, rfl, .refl _⟩, ⟨_, rfl, .refl _⟩, trivial⟩ trivial ?_;refine qR ?_
      iterate 2 refine rC ?_
      refine rQ iE ?_;refine rC ?_;refine nS ?_;refine wF ?_;refine wc_exit ?_;refine seq_x ?_;refine loop_x ?_;refine blk_x ?_;refine seq_n ?_;refine sR ?_;iterate 4 refine rC ?_
      refine nS ?_;refine wc_ret ?_
      exact ⟨trivial, [], lf⟩
theorem rparse_is (s : List UInt8) (hs : s.length ≤ 1048575) : FnIs Tryz.prog 50 [.d (strD s)] [] (rpR (parseP s [] 1)) [] := by
  have h := parse_same s.length s [] 0 (Nat.le_refl _) rfl
  rw [← h]
  have hne := splitL_ne s 10
  exact rparse_main s hs _ rfl ((splitL s 10).length - 1) (by have := List.length_pos_iff.2 hne; omega)
end Go.Proofs.YtmojbghcngdkpaaGreatDoor

namespace Go.Plain
open Go.Lib
theorem asc_unique : ∀ (a b : List Int), a.Pairwise (· < ·) → b.Pairwise (· < ·) → (∀ x, x ∈ a ↔ x ∈ b) → a = b
  | [], [], _, _, _ => rfl
  | [], y :: b, _, _, h => absurd ((h y).2 (List.mem_cons_self ..)) (by simp)
  | x :: a, [], _, _, h => absurd ((h x).1 (List.mem_cons_self ..)) (by simp)
  | x :: a, y :: b, ha, hb, h => by
    have ha' := List.pairwise_cons.1 ha
    have hb' := List.pairwise_cons.1 hb
    have h1 := (h x).1 (List.mem_cons_self ..)
    have h2 := (h y).2 (List.mem_cons_self ..)
    have hxy : x = y := by
      rcases List.mem_cons.1 h1 with e | e
      · exact e
      · rcases List.mem_cons.1 h2 with e2 | e2
        · exact e2.symm
        · have h3 := ha'.1 y e2
          have h4 := hb'.1 x e
          omega
    subst hxy
    congr 1
    refine asc_unique a b ha'.2 hb'.2 fun z => ⟨fun hz => ?_, fun hz => ?_⟩
    · have h5 := ha'.1 z hz
      rcases List.mem_cons.1 ((h z).1 (List.mem_cons_of_mem _ hz)) with e | e
      · omega
      · exact e
    · have h5 := hb'.1 z hz
      rcases List.mem_cons.1 ((h z).2 (List.mem_cons_of_mem _ hz)) with e | e
      · omega
      · exact e
theorem compact_asc {d : Array Int} (hs : ∀ i j, i < j → j < d.size → d[i]! ≤ d[j]!) : ∀ m, m ≤ d.size →
    (compactUpTo d m).Pairwise (· < ·) ∧ (∀ x, x ∈ compactUpTo d m ↔ ∃ j, j < m ∧ d[j]! = x) := by
  intro m
  induction m with
  | zero => intro _; exact ⟨List.Pairwise.nil, fun x => by simp [compactUpTo]⟩
  | succ m ih =>
    intro hm
    obtain ⟨h1, h2⟩ := ih (by omega)
    rw [compactUpTo_succ]
    by_cases hk : keeps d m = true
    · rw [if_pos hk]
      have hlt : ∀ x, x ∈ compactUpTo d m → x < d[m]! := by
        intro x hx
        obtain ⟨j, hj, rfl⟩ := (h2 x).1 hx
        rcases of_decide_eq_true hk with h0 | h0
        · omega
        · have h3 := hs (m - 1) m (by omega) (by omega)
          rcases Nat.lt_or_ge j (m - 1) with h4 | h4
          · have := hs j (m - 1) h4 (by omega); omega
          · have : j = m - 1 := by omega
            subst this; omega
      refine ⟨List.pairwise_append.2 ⟨h1, List.pairwise_singleton _ _, fun x hx y hy => ?_⟩, fun x => ?_⟩
      · rw [List.mem_singleton.1 hy]; exact hlt x hx
      · rw [List.mem_append, h2, List.mem_singleton]
        constructor
        · rintro (⟨j, hj, e⟩ | e)
          · exact ⟨j, by omega, e⟩
          · exact ⟨m, by omega, e.symm⟩
        · rintro ⟨j, hj, e⟩
          rcases Nat.lt_or_ge j m with h4 | h4
          · exact .inl ⟨j, h4, e⟩
          · have : j = m := by omega
            subst this; exact .inr e.symm
    · rw [if_neg hk, List.append_nil]
      have hk' : ¬ (m = 0 ∨ d[m]! ≠ d[m - 1]!) := fun h => hk (decide_eq_true h)
      have hm0 : m ≠ 0 := fun e => hk' (.inl e)
      have he : d[m]! = d[m - 1]! := Classical.byContradiction fun e => hk' (.inr e)
      refine ⟨h1, fun x => ?_⟩
      rw [h2]
      constructor
      · rintro ⟨j, hj, e⟩; exact ⟨j, by omega, e⟩
      · rintro ⟨j, hj, e⟩
        rcases Nat.lt_or_ge j m with h4 | h4
        · exact ⟨j, h4, e⟩
        · have : j = m := by omega
          subst this; exact ⟨j - 1, by omega, by rw [← he]; exact e⟩
abbrev sortI (l : List Int) : List Int := l.mergeSort fun x y => decide (x ≤ y)
theorem sort_len (l : List Int) : (sortI l).length = l.length := List.length_mergeSort _
theorem sort_mem (l : List Int) (x : Int) : x ∈ sortI l ↔ x ∈ l := List.mem_mergeSort
theorem sort_asc (l : List Int) : (sortI l).Pairwise (· ≤ ·) := by
  have := List.pairwise_mergeSort (le := fun x y : Int => decide (x ≤ y)) (fun a b c h1 h2 => by have := of_decide_eq_true h1; have := of_decide_eq_true h2; exact decide_eq_true (by omega)) (fun a b => by
    by_cases h : a ≤ b
    · simp [h]
    · have : b ≤ a := by omega
      simp [this]) l
  exact this.imp fun h => of_decide_eq_true h
theorem csort (l : List Int) : (compact (sortI l)).Pairwise (· < ·) ∧ ∀ x, x ∈ compact (sortI l) ↔ x ∈ l := by
  have h := compact_asc (d := (sortI l).toArray) (fun i j hij hj => by
    simp only [List.size_toArray] at hj
    have := List.pairwise_iff_getElem.1 (sort_asc l) i j (by omega) hj hij
    simp only [List.getElem!_toArray]
    rw [getElem!_pos _ i (by omega), getElem!_pos _ j hj]
    exact this) (sortI l).length (Nat.le_refl _)
  refine ⟨h.1, fun x => ?_⟩
  rw [show compact (sortI l) = compactUpTo (sortI l).toArray (sortI l).length from rfl, h.2, ← sort_mem l x]
  constructor
  · rintro ⟨j, hj, e⟩
    simp only [List.getElem!_toArray] at e
    rw [getElem!_pos _ j hj] at e
    rw [← e]; exact List.getElem_mem _
  · intro hx
    obtain ⟨j, hj, e⟩ := List.getElem_of_mem hx
    refine ⟨j, hj, ?_⟩
    simp only [List.getElem!_toArray]
    rw [getElem!_pos _ j hj]
    exact e
theorem compact_len (l : List Int) : (compact l).length ≤ l.length := by
  unfold compact compactUpTo
  rw [List.length_map]
  refine Nat.le_trans (List.length_filter_le _ _) ?_
  simp
end Go.Plain

namespace Go.Proofs.YtmojbghcngdkpaaGreatDoor
open Go.Eng Go.Plain Go.Lib
def insL (n : Int) : List Int → List Int
  | [] => [n]
  | x :: l => if n ≤ x then n :: (x :: l).filter (fun y => decide (y ≠ n)) else x :: insL n l
theorem wfold_true (n : Int) : ∀ (l o : List Int), l.foldl (wStep n) (o, true) = (o ++ l.filter (fun y => decide (y ≠ n)), true)
  | [], o => by simp
  | x :: l, o => by
    rw [List.foldl_cons]
    by_cases h : x = n
    · rw [show wStep n (o, true) x = (o, true) by simp [wStep, h], wfold_true n l o]
      simp [h]
    · rw [show wStep n (o, true) x = (o ++ [x], true) by simp [wStep, h], wfold_true n l (o ++ [x])]
      simp [h]
def wOut (n : Int) (s : List Int × Bool) : List Int := if s.2 = true then s.1 else s.1 ++ [n]
theorem wfold_false (n : Int) : ∀ (l o : List Int), wOut n (l.foldl (wStep n) (o, false)) = o ++ insL n l
  | [], o => by simp [insL, wOut]
  | x :: l, o => by
    rw [List.foldl_cons]
    by_cases h : n ≤ x
    · by_cases h2 : x = n
      · rw [show wStep n (o, false) x = (o ++ [n], true) by simp [wStep, h, h2], wfold_true n l (o ++ [n])]
        simp [wOut, insL, h2]
      · rw [show wStep n (o, false) x = (o ++ [n] ++ [x], true) by simp [wStep, h, h2], wfold_true n l (o ++ [n] ++ [x])]
        simp [wOut, insL, h, h2]
    · have h2 : x ≠ n := by omega
      rw [show wStep n (o, false) x = (o ++ [x], false) by simp [wStep, h, h2], wfold_false n l (o ++ [x])]
      simp [insL, h]
theorem withL_ins (l : List Int) (n : Int) : withL l n = insL n l := by
  have h := wfold_false n l []
  rw [List.nil_append] at h
  rw [← h]
  cases hb : (l.foldl (wStep n) ([], false)).2 <;> simp [withL, wPre, wOut, hb]
theorem insL_mem (n x : Int) : ∀ (l : List Int), x ∈ insL n l ↔ x = n ∨ x ∈ l
  | [] => by simp [insL]
  | y :: l => by
    rw [insL]
    by_cases h : n ≤ y
    · rw [if_pos h, List.mem_cons, List.mem_filter]
      by_cases e : x = n
      · simp [e]
      · simp [e]
    · rw [if_neg h, List.mem_cons, insL_mem n x l, List.mem_cons]
      constructor
      · rintro (h | h | h)
        · exact .inr (.inl h)
        · exact .inl h
        · exact .inr (.inr h)
      · rintro (h | h | h)
        · exact .inr (.inl h)
        · exact .inl h
        · exact .inr (.inr h)
theorem insL_asc (n : Int) : ∀ (l : List Int), l.Pairwise (· < ·) → (insL n l).Pairwise (· < ·)
  | [], _ => by simp [insL]
  | y :: l, hl => by
    have hl' := List.pairwise_cons.1 hl
    rw [insL]
    by_cases h : n ≤ y
    · rw [if_pos h]
      refine List.pairwise_cons.2 ⟨fun x hx => ?_, hl.filter _⟩
      obtain ⟨h1, h2⟩ := List.mem_filter.1 hx
      have h2 := of_decide_eq_true h2
      rcases List.mem_cons.1 h1 with e | e
      · omega
      · have := hl'.1 x e; omega
    · rw [if_neg h]
      refine List.pairwise_cons.2 ⟨fun x hx => ?_, insL_asc n l hl'.2⟩
      rcases (insL_mem n x l).1 hx with e | e
      · omega
      · exact hl'.1 x e
def idxL (b : Int) (l : List POp) : List Int := (l.filter (touB b)).map POp.index
theorem tou_fold (b : Int) : ∀ (l : List POp) (a : List Int), a.Pairwise (· < ·) → (l.foldl (touS b) a).Pairwise (· < ·) ∧ ∀ x, x ∈ l.foldl (touS b) a ↔ x ∈ a ∨ x ∈ idxL b l
  | [], a, ha => ⟨ha, fun x => by simp [idxL]⟩
  | o :: l, a, ha => by
    rw [List.foldl_cons]
    by_cases h : touB b o = true
    · rw [show touS b a o = insL o.index a by rw [touS, if_pos h, withL_ins]]
      obtain ⟨h1, h2⟩ := tou_fold b l _ (insL_asc o.index a ha)
      refine ⟨h1, fun x => ?_⟩
      rw [h2, insL_mem, show idxL b (o :: l) = o.index :: idxL b l by simp [idxL, h], List.mem_cons]
      constructor
      · rintro ((h | h) | h)
        · exact .inr (.inl h)
        · exact .inl h
        · exact .inr (.inr h)
      · rintro (h | h | h)
        · exact .inl (.inr h)
        · exact .inl (.inl h)
        · exact .inr h
    · rw [show touS b a o = a by rw [touS, if_neg h]]
      obtain ⟨h1, h2⟩ := tou_fold b l a ha
      refine ⟨h1, fun x => ?_⟩
      rw [h2, show idxL b (o :: l) = idxL b l by simp [idxL, h]]
theorem touL_sort (b : Int) (l : List POp) : compact (sortI (idxL b l)) = touL b l := by
  obtain ⟨h1, h2⟩ := tou_fold b l [] List.Pairwise.nil
  obtain ⟨h3, h4⟩ := csort (idxL b l)
  refine asc_unique _ _ h3 h1 fun x => ?_
  rw [h4, show (x ∈ touL b l) = (x ∈ l.foldl (touS b) []) from rfl, h2]
  simp
theorem idxL_snoc (b : Int) (l : List POp) (o : POp) : idxL b (l ++ [o]) = if touB b o = true then idxL b l ++ [o.index] else idxL b l := by
  by_cases h : touB b o = true <;> simp [idxL, h]
theorem idxL_len (b : Int) (l : List POp) : (idxL b l).length ≤ l.length := by
  rw [idxL, List.length_map]
  exact List.length_filter_le _ _
end Go.Proofs.YtmojbghcngdkpaaGreatDoor

namespace Go.Proofs.YtmojbghcngdkpaaGreatDoor
open Go.Eng Go.Plain Go.RowKit
set_option maxHeartbeats 4000000
set_option maxRecDepth 20000
attribute [local irreducible] WC RegS RegD SeqQ BlkQ ScoQ RegK CutK Sat SatN FnIs LoopQ StepIs OpIs
theorem tup_nil (σ : Eng.Place) (w : World) (X : Nat → Prop) : RelV σ w X (.tup .anil) (.tuple #[]) := by
  unfold RelV
  simp only [AV.isAgg]
  exact ⟨[], rfl, rfl⟩
theorem sort_is (l : List Int) (h : 0 < l.length) (hl : l.length ≤ 100000) : FnIs Tryz.prog 86 [.own 0 0 l.length 1 none] [(0, rowI l)] (.tup .anil) [(0, rowI (sortI l))] :=
  .of_calls_ints (rv := fun _ _ => .tuple #[]) h (sort_len l) ⟨_, Tryz.func86, by kernel_rfl, by kernel_rfl⟩ (fun σ w X b c _ _ => tup_nil σ w X) trivial fun w b c hb hH hc => by
    refine (Tryz.slices_Sort_int b 0 c l w hH hb (by omega)).mono ?_
    rintro e w' ⟨h1, h2⟩
    exact ⟨h1, h2⟩
theorem compact_own (l : List Int) (h : 0 < l.length) (hl : l.length ≤ 100000) : FnIs Tryz.prog 89 [.own 0 0 l.length 1 none] [(0, rowI l)] (.own 0 0 (Lib.compact l).length 1 none) [(0, rowI (Lib.compact l ++ List.replicate (l.length - (Lib.compact l).length) 0))] :=
  .of_calls_ints (rv := fun b c => .slice (some ⟨b, 0, none⟩) (Lib.compact l).length c) h (by have := compact_len l; simp; omega) ⟨_, Tryz.func89, by kernel_rfl, by kernel_rfl⟩ (fun σ w X b c hs hc => by
    have := compact_len l
    unfold RelV
    simp only [AV.isAgg, Bool.false_eq_true, if_false]
    exact .inr ⟨b, c, ⟨b, 0, none⟩, hs, by simp, by omega, by simp, by simp; omega, fun _ => by simp⟩) (by show (0 : Nat) < 72; decide) fun w b c hb hH hc => by
    refine (Tryz.slices_Compact_int b 0 c l w hH (by omega) hc).mono ?_
    rintro e w' ⟨h1, q, h2⟩
    exact ⟨h1, q, #[], by rw [h2]; simp [Sort.grow_empty]⟩
theorem compact_is (l : List Int) (h : 0 < l.length) (hl : l.length ≤ 100000) : FnIs Tryz.prog 89 [.own 0 0 l.length 1 none] [(0, rowI l)] (.d (.arr 1 i6 (Lib.compact l))) [] :=
  (compact_own l h hl).freeze_out 0 _ rfl (Frz.row_le (row' := rowI (Lib.compact l)) (fun σ w X r hr => by
    have := RowLe.ds_take (m := (Lib.compact l).length) σ w X r hr
    rwa [List.take_left'] at this
    rfl) (Frz.own rfl)) trivial
theorem len64_0 : FnIs Tryz.prog 154 [.int .u64 0] [] (.int .i64 0) [] :=
  .of_calls1 rfl ⟨_, Tryz.func154, by kernel_rfl, by kernel_rfl⟩ fun σ w X vs ha hg => by
    rw [ha.one]
    refine (Tryz.bits_Len64 0 w (by decide) (by decide)).mono ?_
    rintro e w' ⟨rfl, rfl⟩
    exact ⟨rfl, Below.refl _ _⟩
theorem len_0 : FnIs Tryz.prog 125 [.int .u64 0] [] (.int .i64 0) [] := by
  refine fnIs_of tab_ok Tryz.func125 rfl rfl rfl ?_;refine sR ?_;refine rC ?_;refine nQ ?_;refine wG ?_;refine kS ?_;refine sR ?_;refine rC ?_;refine rQ (call_r len64_0 rfl rfl (arg_e arg_nil) (.inl rfl) (fun _ => rfl)) ?_
  refine rC ?_;refine nS ?_;refine wc_ret ?_
  exact ⟨trivial, [], lf⟩
theorem ins_nil : FnIs Tryz.prog 144 [.d (.sc nil_), .int .i64 0, .int .i64 0] [] (.tup .anil) [] := by
  refine fnIs_of tab_ok Tryz.func144 rfl rfl rfl ?_;refine sR ?_;refine rC ?_;refine rQ iD ?_;refine rC ?_;refine nS ?_;refine wc_block ?_;refine wc_once ?_;refine qR ?_
  iterate 3 refine rC ?_
  refine nS ?_;refine wG ?_;refine wc_exit ?_;refine seq_x ?_;refine loop_x ?_;refine blk_x ?_
  exact ⟨trivial, [], lf⟩
theorem pdq_nil : FnIs Tryz.prog 124 [.d (.sc nil_), .int .i64 0, .int .i64 0, .int .i64 0] [] (.tup .anil) [] := by
  refine fnIs_of tab_ok Tryz.func124 rfl rfl rfl ?_;refine sR ?_;refine rC ?_;refine nR ?_;refine rC ?_;refine nS ?_;refine wc_block ?_;refine wc_once ?_;refine wc_block ?_
  refine sR ?_;iterate 2 refine rC ?_
  refine rQ (sub_int tab_ok rfl rfl (wrap_i64 (by omega) (by omega))) ?_;refine rC ?_;refine nQ ?_;refine sR ?_;iterate 2 refine rC ?_
  refine nS ?_;refine wV ?_;refine sR ?_;iterate 3 refine rC ?_
  refine rQ (call_r ins_nil rfl rfl (arg_e (arg_e (arg_e arg_nil))) (.inl rfl) (fun _ => rfl)) ?_;refine nS ?_;refine wc_ret ?_;refine seq_r ?_;refine blk_r ?_;refine loop_r ?_
  refine blk_r ?_
  exact ⟨trivial, [], lf⟩
theorem sort_nil : FnIs Tryz.prog 86 [.d (.sc nil_)] [] (.tup .anil) [] := by
  refine fnIs_of tab_ok Tryz.func86 rfl rfl rfl ?_;refine sR ?_;refine rC ?_;refine rQ (len_nil tab_ok rfl rfl) ?_;refine rC ?_;refine nS ?_;refine wc_region ?_;iterate 3 refine rC ?_
  refine rQ (conv_int tab_ok rfl rfl rfl rfl) ?_;refine rQ (call_r len_0 rfl rfl (arg_e arg_nil) (.inl rfl) (fun _ => rfl)) ?_;refine rQ (call_r pdq_nil rfl rfl (arg_e (arg_e (arg_e (arg_e arg_nil)))) (.inl rfl) (fun _ => rfl)) ?_
  refine reg_nil ?_
  exact ⟨trivial, [], lf⟩
theorem compact_nil : FnIs Tryz.prog 89 [.d (.sc nil_)] [] (.d (.sc nil_)) [] :=
  .of_calls1 rfl ⟨_, Tryz.func89, by kernel_rfl, by kernel_rfl⟩ fun σ w X vs ha hg => by
    rw [ha.one]
    refine (Tryz.slices_Compact_int_empty none 0 w).mono ?_
    rintro e w' ⟨rfl, rfl⟩
    exact ⟨rfl, Below.refl _ _⟩
theorem clonei_ne (l : List Int) (hp : 0 < l.length) (hlen : l.length ≤ 1048576) : FnIs Tryz.prog 88 [.d (.arr 1 i6 l)] [] (.own 64 0 l.length 1 none) [(64, rowI l)] := by
  refine fnIs_of tab_ok Tryz.func88 rfl rfl rfl ?_;refine sR ?_;refine rC ?_;refine nQ ?_;refine sR ?_;refine rC ?_;refine rQ (eql_nil tab_ok rfl rfl rfl hp) ?_;refine nS ?_
  refine wG ?_;refine kS ?_;refine sR ?_;refine rQ (build_empty tab_ok rfl rfl) ?_;refine rC ?_;refine reg_new (append_empty_arr tab_ok rfl rfl rfl rfl rfl (.inl rfl) rfl hp hlen rfl) rfl ?_
  refine rC ?_;refine nS ?_;refine wc_ret ?_
  exact ⟨trivial, [(64, some 104)], .of rfl rfl rfl rfl rfl ⟨⟨_, rfl, AVLe.of_eq rfl⟩, rfl, trivial⟩ ⟨⟨rfl, rfl, _, rfl, .refl _⟩, trivial⟩⟩
theorem clonei_is (l : List Int) (hp : 0 < l.length) (hlen : l.length ≤ 1048576) : FnIs Tryz.prog 88 [.d (.arr 1 i6 l)] [] (.d (.arr 1 i6 l)) [] := (clonei_ne l hp hlen).freeze_out 64 _ rfl (Frz.own rfl) trivial
theorem clonei_nil : FnIs Tryz.prog 88 [.d (.sc nil_)] [] (.d (.sc nil_)) [] := by
  refine fnIs_of tab_ok Tryz.func88 rfl rfl rfl ?_;refine sR ?_;refine rC ?_;refine nQ ?_;refine sR ?_;refine rC ?_;refine rQ (eql_nn tab_ok rfl rfl rfl) ?_;refine nS ?_
  refine wV ?_;refine sR ?_;refine rC ?_;refine nS ?_;refine wc_ret ?_;refine seq_r ?_
  exact ⟨trivial, [], lf⟩
theorem clipi_is (l : List Int) : FnIs Tryz.prog 87 [.d (.arr 1 i6 l)] [] (.d (.arx 1 i6 l)) [] := by
  refine fnIs_of tab_ok Tryz.func87 rfl rfl rfl ?_;refine sR ?_;refine rC ?_;refine nR ?_;iterate 2 refine rC ?_
  refine rQ iE ?_;refine rC ?_;refine rQ iE ?_;refine rQ (slice_clip_arr tab_ok rfl rfl rfl rfl rfl) ?_;refine rC ?_;refine nS ?_;refine wc_ret ?_
  exact ⟨trivial, [], lf⟩
end Go.Proofs.YtmojbghcngdkpaaGreatDoor

namespace Go.Proofs.YtmojbghcngdkpaaGreatDoor
open Go.Eng Go.Plain
set_option maxHeartbeats 4000000
set_option maxRecDepth 20000
attribute [local irreducible] WC RegS RegD SeqQ BlkQ ScoQ RegK CutK Sat SatN FnIs LoopQ StepIs OpIs
@[reducible] def accA : List Int → AV
  | [] => .d (.sc nil_)
  | x :: xs => .own 65 0 (xs.length + 1) 1 none
@[reducible] def accH : List Int → Upds
  | [] => []
  | x :: xs => [(65, some (rowI (x :: xs)))]
@[reducible] noncomputable def tS1 (l : List (List POp)) (b : Int) (a : List Int × Nat) : St := ⟨[(12, .int .i64 a.2), (11, .int .i64 l.length), (10, .d (encPL l)), (5, accA a.1), (1, .int .i64 b)], accH a.1, 72, Tryz.f43.ntmps, 64⟩
@[reducible] noncomputable def tS2 (l : List (List POp)) (b : Int) (i : Nat) (p : List POp) (a : List Int × Nat) : St := ⟨[(18, .int .i64 a.2), (17, .int .i64 p.length), (16, .d (encP p)), (12, .int .i64 i), (11, .int .i64 l.length), (10, .d (encPL l)), (5, accA a.1), (1, .int .i64 b)], accH a.1, 72, Tryz.f43.ntmps, 64⟩
theorem clipi_nil : FnIs Tryz.prog 87 [.d (.sc nil_)] [] (.d (.arx 1 i6 [])) [] := FnIs.args_le (avs' := [.d (.arr 1 i6 [])]) ⟨⟨nil_arr _ _, fun _ _ => trivial⟩, trivial⟩ (clipi_is [])
theorem touched_is (l : List (List POp)) (b : Int) (hL : l.length ≤ 100000) (hF : l.flatten.length ≤ 100000) : FnIs Tryz.prog 43 [.d (encPL l), .int .i64 b] [] (.d (.arx 1 i6 (touL b l.flatten))) [] := by
  refine fnIs_of tab_ok Tryz.func43 rfl rfl rfl ?_;refine sR ?_;refine rC ?_;refine nR ?_;refine rC ?_;refine nQ ?_;refine sR ?_;refine rC ?_;refine rQ iE ?_;refine rC ?_
  refine nS ?_;refine wc_block ?_
  refine wc_inv (tS1 l b) (fun a => a.2 ≤ l.length ∧ a.1 = idxL b (l.take a.2).flatten) (fun a => l.length - a.2) ([], 0) [] ⟨Nat.zero_le _, rfl⟩
    (.of rfl rfl rfl rfl rfl ⟨⟨_, rfl, .refl _⟩, rfl, ⟨_, rfl, .refl _⟩, rfl, ⟨_, rfl, .refl _⟩, rfl, ⟨_, rfl, .refl _⟩, rfl, ⟨_, rfl, .refl _⟩, rfl, trivial⟩ trivial) ?_
  rintro ⟨acc, i⟩ ⟨hi, hacc⟩
  simp only at hi hacc
  cases acc with
  | nil =>
    refine wc_of ?_;refine sR ?_;refine rC ?_;refine nQ ?_
    refine wc_cond rfl (fun h3 => ?_) (fun h3 => ?_)
    · have hlt : i < l.length := by have := of_decide_eq_true h3; omega
      clear h3
      obtain ⟨p, hp⟩ : ∃ p, l[i]? = some p := ⟨_, List.getElem?_eq_getElem hlt⟩
      have hp' : l[((i : Int)).toNat]? = some p := by rw [Int.toNat_natCast]; exact hp
      have hfm := flat_mem_le hp
      rw [← preO_zero l i p] at hacc
      refine kS ?_;refine wc_seq ?_;refine wc_block ?_;refine sR ?_;refine rQ iA ?_;refine rQ iL ?_;refine rC ?_;refine nR ?_;refine rC ?_;refine rQ iE ?_;refine rC ?_
      refine nS ?_;refine wc_block ?_
      refine wc_inv (tS2 l b i p) (fun a => a.2 ≤ p.length ∧ a.1 = idxL b (preO l i p a.2)) (fun a => p.length - a.2) (([] : List Int), 0) [] ⟨Nat.zero_le _, hacc⟩
        (.of rfl rfl rfl rfl rfl ⟨⟨_, rfl, .refl _⟩, rfl, ⟨_, rfl, .refl _⟩, rfl, ⟨_, rfl, .refl _⟩, rfl, ⟨_, rfl, .refl _⟩, rfl, ⟨_, rfl, .refl _⟩, rfl, ⟨_, rfl, .refl _⟩, rfl, ⟨_, rfl, .refl _⟩, rfl, ⟨_, rfl, .refl _⟩, rfl, trivial⟩ trivial) ?_
      rintro ⟨acc, j⟩ ⟨hj, hacc⟩
      simp only at hj hacc
      cases acc with
      | nil =>
        refine wc_of ?_;refine sR ?_;refine rC ?_;refine nQ ?_
        refine wc_cond rfl (fun h4 => ?_) (fun h4 => ?_)
        · have hjl : j < p.length := by have := of_decide_eq_true h4; omega
          clear h4
          obtain ⟨o, ho⟩ : ∃ o, p[j]? = some o := ⟨_, List.getElem?_eq_getElem hjl⟩
          have ho' : p[((j : Int)).toNat]? = some o := by rw [Int.toNat_natCast]; exact ho
          have hgo := preO_go (l := l) (i := i) ho
          have hle := preO_le (j := j) hp
          have hstep : idxL b (preO l i p (j + 1)) = if touB b o = true then idxL b (preO l i p j) ++ [o.index] else idxL b (preO l i p j) := by rw [hgo, idxL_snoc]
          have hil := idxL_len b (preO l i p j)
          rw [← hacc] at hstep hil
          have hbad := bad_is o b
          by_cases k3 : o.kind = 3
          · have hk : (!decide (o.kind = 3)) = false := by rw [decide_eq_true k3]; rfl
            rw [if_neg (by rw [touB, hk, Bool.false_and]; decide)] at hstep
            refine kS ?_;refine wc_seq ?_;refine wc_block ?_;refine sR ?_;refine rQ iA ?_;refine rQ iL ?_;refine rN ?_;refine rW ?_;refine nR ?_;refine rC ?_;refine rQ iB ?_
            iterate 2 refine rC ?_
            iterate 4 refine rS ?_
            refine rQ iF ?_;refine nS ?_;refine wG ?_;refine wc_skip ?_;refine blk_n ?_;refine seq_n ?_;refine wc_region ?_;refine rQ iD ?_;refine rC ?_;refine reg_nil ?_
            exact loop_n (([] : List Int), j + 1) [] ⟨hjl, hstep.symm⟩ (by show p.length - (j + 1) < p.length - j; omega) (.of rfl rfl rfl rfl rfl ⟨⟨_, rfl, .refl _⟩, rfl, ⟨_, rfl, .refl _⟩, rfl, ⟨_, rfl, .refl _⟩, rfl, ⟨_, rfl, .refl _⟩, rfl, ⟨_, rfl, .refl _⟩, rfl, ⟨_, rfl, .refl _⟩, rfl, ⟨_, rfl, .refl _⟩, rfl, ⟨_, rfl, .refl _⟩, rfl, trivial⟩ trivial)
          have hk : (!decide (o.kind = 3)) = true := by rw [decide_eq_false k3]; rfl
          cases hb : badO o b with
          | true =>
            rw [hb] at hbad
            rw [if_neg (by rw [touB, hk, hb]; decide)] at hstep
            refine kS ?_;refine wc_seq ?_;refine wc_block ?_;refine sR ?_;refine rQ iA ?_;refine rQ iL ?_;refine rN ?_;refine rW ?_;refine nR ?_;refine rC ?_;refine rQ iB ?_
            iterate 2 refine rC ?_
            refine rO ?_;refine rQ iM ?_;refine rO ?_;refine rC ?_;refine rO ?_;refine rQ (call_r hbad rfl rfl (arg_e (arg_e arg_nil)) (.inl rfl) (fun _ => rfl)) ?_;refine rO ?_
            refine rC ?_;refine rQ iT ?_;refine nS ?_;refine wG ?_;refine wc_skip ?_;refine blk_n ?_;refine seq_n ?_;refine wc_region ?_;refine rQ iD ?_;refine rC ?_;refine reg_nil ?_
            exact loop_n (([] : List Int), j + 1) [] ⟨hjl, hstep.symm⟩ (by show p.length - (j + 1) < p.length - j; omega) (.of rfl rfl rfl rfl rfl ⟨⟨_, rfl, .refl _⟩, rfl, ⟨_, rfl, .refl _⟩, rfl, ⟨_, rfl, .refl _⟩, rfl, ⟨_, rfl, .refl _⟩, rfl, ⟨_, rfl, .refl _⟩, rfl, ⟨_, rfl, .refl _⟩, rfl, ⟨_, rfl, .refl _⟩, rfl, ⟨_, rfl, .refl _⟩, rfl, trivial⟩ trivial)
          | false =>
            rw [hb] at hbad
            rw [if_pos (by rw [touB, hk, hb]; rfl)] at hstep
            have hA : ([] : List Int).length + 1 ≤ 1048576 := by omega
            refine kS ?_;refine wc_seq ?_;refine wc_block ?_;refine sR ?_;refine rQ iA ?_;refine rQ iL ?_;refine rN ?_;refine rW ?_;refine nR ?_;refine rC ?_;refine rQ iB ?_
            iterate 2 refine rC ?_
            refine rO ?_;refine rQ iM ?_;refine rO ?_;refine rC ?_;refine rO ?_;refine rQ (call_r hbad rfl rfl (arg_e (arg_e arg_nil)) (.inl rfl) (fun _ => rfl)) ?_;refine rO ?_
            refine rC ?_;refine rQ iT ?_;refine nS ?_;refine wV ?_;refine wc_region ?_;iterate 2 refine rC ?_
            refine rQ iB ?_;refine reg_new (build_slice (s := 1) tab_ok rfl rfl rfl rfl rfl rfl rfl rfl) rfl ?_;refine reg_new (append_nil_one (s := 1) (enc := i6) tab_ok o.index rfl rfl rfl rfl rfl rfl rfl rfl) rfl ?_
            refine rC ?_;refine reg_nil ?_;refine blk_n ?_;refine seq_n ?_;refine wc_region ?_;refine rQ iD ?_;refine rC ?_;refine reg_nil ?_
            exact loop_n ([o.index], j + 1) [(65, some 216)] ⟨hjl, hstep.symm⟩ (by show p.length - (j + 1) < p.length - j; omega) (.of rfl rfl rfl rfl rfl ⟨⟨_, rfl, .refl _⟩, rfl, ⟨_, rfl, .refl _⟩, rfl, ⟨_, rfl, .refl _⟩, rfl, ⟨_, rfl, .refl _⟩, rfl, ⟨_, rfl, .refl _⟩, rfl, ⟨_, rfl, .refl _⟩, rfl, ⟨_, rfl, .refl _⟩, rfl, ⟨_, rfl, .refl _⟩, rfl, trivial⟩ ⟨⟨rfl, rfl, _, rfl, .refl _⟩, trivial⟩)
        · have he : j = p.length := by have := of_decide_eq_false h4; omega
          subst he
          clear h4
          refine wc_exit ?_;refine seq_x ?_;refine loop_x ?_;refine blk_x ?_;refine blk_n ?_;refine seq_n ?_;refine wc_region ?_;refine rQ iD ?_;refine rC ?_;refine reg_nil ?_
          rw [preO_end hp] at hacc
          exact loop_n (([] : List Int), i + 1) [] ⟨hlt, hacc⟩ (by show l.length - (i + 1) < l.length - i; omega) (.of rfl rfl rfl rfl rfl ⟨⟨_, rfl, .refl _⟩, rfl, ⟨_, rfl, .refl _⟩, rfl, ⟨_, rfl, .refl _⟩, rfl, ⟨_, rfl, .refl _⟩, rfl, ⟨_, rfl, .refl _⟩, rfl, trivial⟩ trivial)
      | cons x xs =>
        refine wc_of ?_;refine sR ?_;refine rC ?_;refine nQ ?_
        refine wc_cond rfl (fun h4 => ?_) (fun h4 => ?_)
        · have hjl : j < p.length := by have := of_decide_eq_true h4; omega
          clear h4
          obtain ⟨o, ho⟩ : ∃ o, p[j]? = some o := ⟨_, List.getElem?_eq_getElem hjl⟩
          have ho' : p[((j : Int)).toNat]? = some o := by rw [Int.toNat_natCast]; exact ho
          have hgo := preO_go (l := l) (i := i) ho
          have hle := preO_le (j := j) hp
          have hstep : idxL b (preO l i p (j + 1)) = if touB b o = true then idxL b (preO l i p j) ++ [o.index] else idxL b (preO l i p j) := by rw [hgo, idxL_snoc]
          have hil := idxL_len b (preO l i p j)
          rw [← hacc] at hstep hil
          have hbad := bad_is o b
          by_cases k3 : o.kind = 3
          · have hk : (!decide (o.kind = 3)) = false := by rw [decide_eq_true k3]; rfl
            rw [if_neg (by rw [touB, hk, Bool.false_and]; decide)] at hstep
            refine kS ?_;refine wc_seq ?_;refine wc_block ?_;refine sR ?_;refine rQ iA ?_;refine rQ iL ?_;refine rN ?_;refine rW ?_;refine nR ?_;refine rC ?_;refine rQ iB ?_
            iterate 2 refine rC ?_
            iterate 4 refine rS ?_
            refine rQ iF ?_;refine nS ?_;refine wG ?_;refine wc_skip ?_;refine blk_n ?_;refine seq_n ?_;refine wc_region ?_;refine rQ iD ?_;refine rC ?_;refine reg_nil ?_
            exact loop_n ((x :: xs), j + 1) [] ⟨hjl, hstep.symm⟩ (by show p.length - (j + 1) < p.length - j; omega) (.of rfl rfl rfl rfl rfl ⟨⟨_, rfl, .refl _⟩, rfl, ⟨_, rfl, .refl _⟩, rfl, ⟨_, rfl, .refl _⟩, rfl, ⟨_, rfl, .refl _⟩, rfl, ⟨_, rfl, .refl _⟩, rfl, ⟨_, rfl, .refl _⟩, rfl, ⟨_, rfl, .refl _⟩, rfl, ⟨_, rfl, .refl _⟩, rfl, trivial⟩ ⟨⟨rfl, rfl, _, rfl, .refl _⟩, trivial⟩)
          have hk : (!decide (o.kind = 3)) = true := by rw [decide_eq_false k3]; rfl
          cases hb : badO o b with
          | true =>
            rw [hb] at hbad
            rw [if_neg (by rw [touB, hk, hb]; decide)] at hstep
            refine kS ?_;refine wc_seq ?_;refine wc_block ?_;refine sR ?_;refine rQ iA ?_;refine rQ iL ?_;refine rN ?_;refine rW ?_;refine nR ?_;refine rC ?_;refine rQ iB ?_
            iterate 2 refine rC ?_
            refine rO ?_;refine rQ iM ?_;refine rO ?_;refine rC ?_;refine rO ?_;refine rQ (call_r hbad rfl rfl (arg_e (arg_e arg_nil)) (.inl rfl) (fun _ => rfl)) ?_;refine rO ?_
            refine rC ?_;refine rQ iT ?_;refine nS ?_;refine wG ?_;refine wc_skip ?_;refine blk_n ?_;refine seq_n ?_;refine wc_region ?_;refine rQ iD ?_;refine rC ?_;refine reg_nil ?_
            exact loop_n ((x :: xs), j + 1) [] ⟨hjl, hstep.symm⟩ (by show p.length - (j + 1) < p.length - j; omega) (.of rfl rfl rfl rfl rfl ⟨⟨_, rfl, .refl _⟩, rfl, ⟨_, rfl, .refl _⟩, rfl, ⟨_, rfl, .refl _⟩, rfl, ⟨_, rfl, .refl _⟩, rfl, ⟨_, rfl, .refl _⟩, rfl, ⟨_, rfl, .refl _⟩, rfl, ⟨_, rfl, .refl _⟩, rfl, ⟨_, rfl, .refl _⟩, rfl, trivial⟩ ⟨⟨rfl, rfl, _, rfl, .refl _⟩, trivial⟩)
          | false =>
            rw [hb] at hbad
            rw [if_pos (by rw [touB, hk, hb]; rfl)] at hstep
            have hA : (x :: xs).length + 1 ≤ 1048576 := by omega
            refine kS ?_;refine wc_seq ?_;refine wc_block ?_;refine sR ?_;refine rQ iA ?_;refine rQ iL ?_;refine rN ?_;refine rW ?_;refine nR ?_;refine rC ?_;refine rQ iB ?_
            iterate 2 refine rC ?_
            refine rO ?_;refine rQ iM ?_;refine rO ?_;refine rC ?_;refine rO ?_;refine rQ (call_r hbad rfl rfl (arg_e (arg_e arg_nil)) (.inl rfl) (fun _ => rfl)) ?_;refine rO ?_
            refine rC ?_;refine rQ iT ?_;refine nS ?_;refine wV ?_;refine wc_region ?_;iterate 2 refine rC ?_
            refine rQ iB ?_;refine reg_new (build_slice (s := 1) tab_ok rfl rfl rfl rfl rfl rfl rfl rfl) rfl ?_;refine reg_new2 (append_one (xs := x :: xs) (s := 1) (enc := i6) tab_ok o.index rfl rfl rfl rfl rfl rfl rfl rfl rfl hA rfl) rfl ?_
            refine rC ?_;refine reg_nil ?_;refine blk_n ?_;refine seq_n ?_;refine wc_region ?_;refine rQ iD ?_;refine rC ?_;refine reg_nil ?_
            exact loop_n (x :: (xs ++ [o.index]), j + 1) [(65, some 216)] ⟨hjl, hstep.symm⟩ (by show p.length - (j + 1) < p.length - j; omega) (.of rfl rfl rfl rfl rfl ⟨⟨_, rfl, .refl _⟩, rfl, ⟨_, rfl, .refl _⟩, rfl, ⟨_, rfl, .refl _⟩, rfl, ⟨_, rfl, .refl _⟩, rfl, ⟨_, rfl, .refl _⟩, rfl, ⟨_, rfl, .refl _⟩, rfl, ⟨_, rfl, AVLe.of_eq (by show AV.own 216 0 (xs.length + 1 + 1) 1 none = AV.own 216 0 ((xs ++ [o.index]).length + 1) 1 none; rw [List.length_append]; rfl)⟩, rfl, ⟨_, rfl, .refl _⟩, rfl, trivial⟩ ⟨⟨rfl, rfl, _, rfl, .refl _⟩, trivial⟩)
        · have he : j = p.length := by have := of_decide_eq_false h4; omega
          subst he
          clear h4
          refine wc_exit ?_;refine seq_x ?_;refine loop_x ?_;refine blk_x ?_;refine blk_n ?_;refine seq_n ?_;refine wc_region ?_;refine rQ iD ?_;refine rC ?_;refine reg_nil ?_
          rw [preO_end hp] at hacc
          exact loop_n ((x :: xs), i + 1) [] ⟨hlt, hacc⟩ (by show l.length - (i + 1) < l.length - i; omega) (.of rfl rfl rfl rfl rfl ⟨⟨_, rfl, .refl _⟩, rfl, ⟨_, rfl, .refl _⟩, rfl, ⟨_, rfl, .refl _⟩, rfl, ⟨_, rfl, .refl _⟩, rfl, ⟨_, rfl, .refl _⟩, rfl, trivial⟩ ⟨⟨rfl, rfl, _, rfl, .refl _⟩, trivial⟩)
    · have he : i = l.length := by have := of_decide_eq_false h3; omega
      subst he
      rw [List.take_length] at hacc
      rw [← touL_sort, ← hacc]
      clear h3
      have e0 : Lib.compact (sortI []) = [] := List.eq_nil_of_length_eq_zero (by have := compact_len (sortI []); rw [sort_len] at this; simpa using this)
      rw [e0]
      refine wc_exit ?_;refine seq_x ?_;refine loop_x ?_;refine blk_x ?_;refine seq_n ?_;refine sR ?_;refine rC ?_;refine rQ (call_r sort_nil rfl rfl (arg_e arg_nil) (.inl rfl) (fun _ => rfl)) ?_
      refine nR ?_;refine rC ?_;refine rQ (call_r compact_nil rfl rfl (arg_e arg_nil) (.inl rfl) (fun _ => rfl)) ?_;refine rQ (call_r clonei_nil rfl rfl (arg_e arg_nil) (.inl rfl) (fun _ => rfl)) ?_
      refine rQ (call_r clipi_nil rfl rfl (arg_e arg_nil) (.inl rfl) (fun _ => rfl)) ?_;refine rC ?_;refine nS ?_;refine wc_ret ?_
      exact ⟨trivial, [], lf⟩
  | cons x xs =>
    refine wc_of ?_;refine sR ?_;refine rC ?_;refine nQ ?_
    refine wc_cond rfl (fun h3 => ?_) (fun h3 => ?_)
    · have hlt : i < l.length := by have := of_decide_eq_true h3; omega
      clear h3
      obtain ⟨p, hp⟩ : ∃ p, l[i]? = some p := ⟨_, List.getElem?_eq_getElem hlt⟩
      have hp' : l[((i : Int)).toNat]? = some p := by rw [Int.toNat_natCast]; exact hp
      have hfm := flat_mem_le hp
      rw [← preO_zero l i p] at hacc
      refine kS ?_;refine wc_seq ?_;refine wc_block ?_;refine sR ?_;refine rQ iA ?_;refine rQ iL ?_;refine rC ?_;refine nR ?_;refine rC ?_;refine rQ iE ?_;refine rC ?_
      refine nS ?_;refine wc_block ?_
      refine wc_inv (tS2 l b i p) (fun a => a.2 ≤ p.length ∧ a.1 = idxL b (preO l i p a.2)) (fun a => p.length - a.2) ((x :: xs), 0) [] ⟨Nat.zero_le _, hacc⟩
        (.of rfl rfl rfl rfl rfl ⟨⟨_, rfl, .refl _⟩, rfl, ⟨_, rfl, .refl _⟩, rfl, ⟨_, rfl, .refl _⟩, rfl, ⟨_, rfl, .refl _⟩, rfl, ⟨_, rfl, .refl _⟩, rfl, ⟨_, rfl, .refl _⟩, rfl, ⟨_, rfl, .refl _⟩, rfl, ⟨_, rfl, .refl _⟩, rfl, trivial⟩ ⟨⟨rfl, rfl, _, rfl, .refl _⟩, trivial⟩) ?_
      rintro ⟨acc, j⟩ ⟨hj, hacc⟩
      simp only at hj hacc
      cases acc with
      | nil =>
        refine wc_of ?_;refine sR ?_;refine rC ?_;refine nQ ?_
        refine wc_cond rfl (fun h4 => ?_) (fun h4 => ?_)
        · have hjl : j < p.length := by have := of_decide_eq_true h4; omega
          clear h4
          obtain ⟨o, ho⟩ : ∃ o, p[j]? = some o := ⟨_, List.getElem?_eq_getElem hjl⟩
          have ho' : p[((j : Int)).toNat]? = some o := by rw [Int.toNat_natCast]; exact ho
          have hgo := preO_go (l := l) (i := i) ho
          have hle := preO_le (j := j) hp
          have hstep : idxL b (preO l i p (j + 1)) = if touB b o = true then idxL b (preO l i p j) ++ [o.index] else idxL b (preO l i p j) := by rw [hgo, idxL_snoc]
          have hil := idxL_len b (preO l i p j)
          rw [← hacc] at hstep hil
          have hbad := bad_is o b
          by_cases k3 : o.kind = 3
          · have hk : (!decide (o.kind = 3)) = false := by rw [decide_eq_true k3]; rfl
            rw [if_neg (by rw [touB, hk, Bool.false_and]; decide)] at hstep
            refine kS ?_;refine wc_seq ?_;refine wc_block ?_;refine sR ?_;refine rQ iA ?_;refine rQ iL ?_;refine rN ?_;refine rW ?_;refine nR ?_;refine rC ?_;refine rQ iB ?_
            iterate 2 refine rC ?_
            iterate 4 refine rS ?_
            refine rQ iF ?_;refine nS ?_;refine wG ?_;refine wc_skip ?_;refine blk_n ?_;refine seq_n ?_;refine wc_region ?_;refine rQ iD ?_;refine rC ?_;refine reg_nil ?_
            exact loop_n (([] : List Int), j + 1) [] ⟨hjl, hstep.symm⟩ (by show p.length - (j + 1) < p.length - j; omega) (.of rfl rfl rfl rfl rfl ⟨⟨_, rfl, .refl _⟩, rfl, ⟨_, rfl, .refl _⟩, rfl, ⟨_, rfl, .refl _⟩, rfl, ⟨_, rfl, .refl _⟩, rfl, ⟨_, rfl, .refl _⟩, rfl, ⟨_, rfl, .refl _⟩, rfl, ⟨_, rfl, .refl _⟩, rfl, ⟨_, rfl, .refl _⟩, rfl, trivial⟩ trivial)
          have hk : (!decide (o.kind = 3)) = true := by rw [decide_eq_false k3]; rfl
          cases hb : badO o b with
          | true =>
            rw [hb] at hbad
            rw [if_neg (by rw [touB, hk, hb]; decide)] at hstep
            refine kS ?_;refine wc_seq ?_;refine wc_block ?_;refine sR ?_;refine rQ iA ?_;refine rQ iL ?_;refine rN ?_;refine rW ?_;refine nR ?_;refine rC ?_;refine rQ iB ?_
            iterate 2 refine rC ?_
            refine rO ?_;refine rQ iM ?_;refine rO ?_;refine rC ?_;refine rO ?_;refine rQ (call_r hbad rfl rfl (arg_e (arg_e arg_nil)) (.inl rfl) (fun _ => rfl)) ?_;refine rO ?_
            refine rC ?_;refine rQ iT ?_;refine nS ?_;refine wG ?_;refine wc_skip ?_;refine blk_n ?_;refine seq_n ?_;refine wc_region ?_;refine rQ iD ?_;refine rC ?_;refine reg_nil ?_
            exact loop_n (([] : List Int), j + 1) [] ⟨hjl, hstep.symm⟩ (by show p.length - (j + 1) < p.length - j; omega) (.of rfl rfl rfl rfl rfl ⟨⟨_, rfl, .refl _⟩, rfl, ⟨_, rfl, .refl _⟩, rfl, ⟨_, rfl, .refl _⟩, rfl, ⟨_, rfl, .refl _⟩, rfl, ⟨_, rfl, .refl _⟩, rfl, ⟨_, rfl, .refl _⟩, rfl, ⟨_, rfl, .refl _⟩, rfl, ⟨_, rfl, .refl _⟩, rfl, trivial⟩ trivial)
          | false =>
            rw [hb] at hbad
            rw [if_pos (by rw [touB, hk, hb]; rfl)] at hstep
            have hA : ([] : List Int).length + 1 ≤ 1048576 := by omega
            refine kS ?_;refine wc_seq ?_;refine wc_block ?_;refine sR ?_;refine rQ iA ?_;refine rQ iL ?_;refine rN ?_;refine rW ?_;refine nR ?_;refine rC ?_;refine rQ iB ?_
            iterate 2 refine rC ?_
            refine rO ?_;refine rQ iM ?_;refine rO ?_;refine rC ?_;refine rO ?_;refine rQ (call_r hbad rfl rfl (arg_e (arg_e arg_nil)) (.inl rfl) (fun _ => rfl)) ?_;refine rO ?_
            refine rC ?_;refine rQ iT ?_;refine nS ?_;refine wV ?_;refine wc_region ?_;iterate 2 refine rC ?_
            refine rQ iB ?_;refine reg_new (build_slice (s := 1) tab_ok rfl rfl rfl rfl rfl rfl rfl rfl) rfl ?_;refine reg_new (append_nil_one (s := 1) (enc := i6) tab_ok o.index rfl rfl rfl rfl rfl rfl rfl rfl) rfl ?_
            refine rC ?_;refine reg_nil ?_;refine blk_n ?_;refine seq_n ?_;refine wc_region ?_;refine rQ iD ?_;refine rC ?_;refine reg_nil ?_
            exact loop_n ([o.index], j + 1) [(65, some 216)] ⟨hjl, hstep.symm⟩ (by show p.length - (j + 1) < p.length - j; omega) (.of rfl rfl rfl rfl rfl ⟨⟨_, rfl, .refl _⟩, rfl, ⟨_, rfl, .refl _⟩, rfl, ⟨_, rfl, .refl _⟩, rfl, ⟨_, rfl, .refl _⟩, rfl, ⟨_, rfl, .refl _⟩, rfl, ⟨_, rfl, .refl _⟩, rfl, ⟨_, rfl, .refl _⟩, rfl, ⟨_, rfl, .refl _⟩, rfl, trivial⟩ ⟨⟨rfl, rfl, _, rfl, .refl _⟩, trivial⟩)
        · have he : j = p.length := by have := of_decide_eq_false h4; omega
          subst he
          clear h4
          refine wc_exit ?_;refine seq_x ?_;refine loop_x ?_;refine blk_x ?_;refine blk_n ?_;refine seq_n ?_;refine wc_region ?_;refine rQ iD ?_;refine rC ?_;refine reg_nil ?_
          rw [preO_end hp] at hacc
          exact loop_n (([] : List Int), i + 1) [] ⟨hlt, hacc⟩ (by show l.length - (i + 1) < l.length - i; omega) (.of rfl rfl rfl rfl rfl ⟨⟨_, rfl, .refl _⟩, rfl, ⟨_, rfl, .refl _⟩, rfl, ⟨_, rfl, .refl _⟩, rfl, ⟨_, rfl, .refl _⟩, rfl, ⟨_, rfl, .refl _⟩, rfl, trivial⟩ trivial)
      | cons x xs =>
        refine wc_of ?_;refine sR ?_;refine rC ?_;refine nQ ?_
        refine wc_cond rfl (fun h4 => ?_) (fun h4 => ?_)
        · have hjl : j < p.length := by have := of_decide_eq_true h4; omega
          clear h4
          obtain ⟨o, ho⟩ : ∃ o, p[j]? = some o := ⟨_, List.getElem?_eq_getElem hjl⟩
          have ho' : p[((j : Int)).toNat]? = some o := by rw [Int.toNat_natCast]; exact ho
          have hgo := preO_go (l := l) (i := i) ho
          have hle := preO_le (j := j) hp
          have hstep : idxL b (preO l i p (j + 1)) = if touB b o = true then idxL b (preO l i p j) ++ [o.index] else idxL b (preO l i p j) := by rw [hgo, idxL_snoc]
          have hil := idxL_len b (preO l i p j)
          rw [← hacc] at hstep hil
          have hbad := bad_is o b
          by_cases k3 : o.kind = 3
          · have hk : (!decide (o.kind = 3)) = false := by rw [decide_eq_true k3]; rfl
            rw [if_neg (by rw [touB, hk, Bool.false_and]; decide)] at hstep
            refine kS ?_;refine wc_seq ?_;refine wc_block ?_;refine sR ?_;refine rQ iA ?_;refine rQ iL ?_;refine rN ?_;refine rW ?_;refine nR ?_;refine rC ?_;refine rQ iB ?_
            iterate 2 refine rC ?_
            iterate 4 refine rS ?_
            refine rQ iF ?_;refine nS ?_;refine wG ?_;refine wc_skip ?_;refine blk_n ?_;refine seq_n ?_;refine wc_region ?_;refine rQ iD ?_;refine rC ?_;refine reg_nil ?_
            exact loop_n ((x :: xs), j + 1) [] ⟨hjl, hstep.symm⟩ (by show p.length - (j + 1) < p.length - j; omega) (.of rfl rfl rfl rfl rfl ⟨⟨_, rfl, .refl _⟩, rfl, ⟨_, rfl, .refl _⟩, rfl, ⟨_, rfl, .refl _⟩, rfl, ⟨_, rfl, .refl _⟩, rfl, ⟨_, rfl, .refl _⟩, rfl, ⟨_, rfl, .refl _⟩, rfl, ⟨_, rfl, .refl _⟩, rfl, ⟨_, rfl, .refl _⟩, rfl, trivial⟩ ⟨⟨rfl, rfl, _, rfl, .refl _⟩, trivial⟩)
          have hk : (!decide (o.kind = 3)) = true := by rw [decide_eq_false k3]; rfl
          cases hb : badO o b with
          | true =>
            rw [hb] at hbad
            rw [if_neg (by rw [touB, hk, hb]; decide)] at hstep
            refine kS ?_;refine wc_seq ?_;refine wc_block ?_;refine sR ?_;refine rQ iA ?_;refine rQ iL ?_;refine rN ?_;refine rW ?_;refine nR ?_;refine rC ?_;refine rQ iB ?_
            iterate 2 refine rC ?_
            refine rO ?_;refine rQ iM ?_;refine rO ?_;refine rC ?_;refine rO ?_;refine rQ (call_r hbad rfl rfl (arg_e (arg_e arg_nil)) (.inl rfl) (fun _ => rfl)) ?_;refine rO ?_
            refine rC ?_;refine rQ iT ?_;refine nS ?_;refine wG ?_;refine wc_skip ?_;refine blk_n ?_;refine seq_n ?_;refine wc_region ?_;refine rQ iD ?_;refine rC ?_;refine reg_nil ?_
            exact loop_n ((x :: xs), j + 1) [] ⟨hjl, hstep.symm⟩ (by show p.length - (j + 1) < p.length - j; omega) (.of rfl rfl rfl rfl rfl ⟨⟨_, rfl, .refl _⟩, rfl, ⟨_, rfl, .refl _⟩, rfl, ⟨_, rfl, .refl _⟩, rfl, ⟨_, rfl, .refl _⟩, rfl, ⟨_, rfl, .refl _⟩, rfl, ⟨_, rfl, .refl _⟩, rfl, ⟨_, rfl, .refl _⟩, rfl, ⟨_, rfl, .refl _⟩, rfl, trivial⟩ ⟨⟨rfl, rfl, _, rfl, .refl _⟩, trivial⟩)
          | false =>
            rw [hb] at hbad
            rw [if_pos (by rw [touB, hk, hb]; rfl)] at hstep
            have hA : (x :: xs).length + 1 ≤ 1048576 := by omega
            refine kS ?_;refine wc_seq ?_;refine wc_block ?_;refine sR ?_;refine rQ iA ?_;refine rQ iL ?_;refine rN ?_;refine rW ?_;refine nR ?_;refine rC ?_;refine rQ iB ?_
            iterate 2 refine rC ?_
            refine rO ?_;refine rQ iM ?_;refine rO ?_;refine rC ?_;refine rO ?_;refine rQ (call_r hbad rfl rfl (arg_e (arg_e arg_nil)) (.inl rfl) (fun _ => rfl)) ?_;refine rO ?_
            refine rC ?_;refine rQ iT ?_;refine nS ?_;refine wV ?_;refine wc_region ?_;iterate 2 refine rC ?_
            refine rQ iB ?_;refine reg_new (build_slice (s := 1) tab_ok rfl rfl rfl rfl rfl rfl rfl rfl) rfl ?_;refine reg_new2 (append_one (xs := x :: xs) (s := 1) (enc := i6) tab_ok o.index rfl rfl rfl rfl rfl rfl rfl rfl rfl hA rfl) rfl ?_
            refine rC ?_;refine reg_nil ?_;refine blk_n ?_;refine seq_n ?_;refine wc_region ?_;refine rQ iD ?_;refine rC ?_;refine reg_nil ?_
            exact loop_n (x :: (xs ++ [o.index]), j + 1) [(65, some 216)] ⟨hjl, hstep.symm⟩ (by show p.length - (j + 1) < p.length - j; omega) (.of rfl rfl rfl rfl rfl ⟨⟨_, rfl, .refl _⟩, rfl, ⟨_, rfl, .refl _⟩, rfl, ⟨_, rfl, .refl _⟩, rfl, ⟨_, rfl, .refl _⟩, rfl, ⟨_, rfl, .refl _⟩, rfl, ⟨_, rfl, .refl _⟩, rfl, ⟨_, rfl, AVLe.of_eq (by show AV.own 216 0 (xs.length + 1 + 1) 1 none = AV.own 216 0 ((xs ++ [o.index]).length + 1) 1 none; rw [List.length_append]; rfl)⟩, rfl, ⟨_, rfl, .refl _⟩, rfl, trivial⟩ ⟨⟨rfl, rfl, _, rfl, .refl _⟩, trivial⟩)
        · have he : j = p.length := by have := of_decide_eq_false h4; omega
          subst he
          clear h4
          refine wc_exit ?_;refine seq_x ?_;refine loop_x ?_;refine blk_x ?_;refine blk_n ?_;refine seq_n ?_;refine wc_region ?_;refine rQ iD ?_;refine rC ?_;refine reg_nil ?_
          rw [preO_end hp] at hacc
          exact loop_n ((x :: xs), i + 1) [] ⟨hlt, hacc⟩ (by show l.length - (i + 1) < l.length - i; omega) (.of rfl rfl rfl rfl rfl ⟨⟨_, rfl, .refl _⟩, rfl, ⟨_, rfl, .refl _⟩, rfl, ⟨_, rfl, .refl _⟩, rfl, ⟨_, rfl, .refl _⟩, rfl, ⟨_, rfl, .refl _⟩, rfl, trivial⟩ ⟨⟨rfl, rfl, _, rfl, .refl _⟩, trivial⟩)
    · have he : i = l.length := by have := of_decide_eq_false h3; omega
      subst he
      rw [List.take_length] at hacc
      rw [← touL_sort, ← hacc]
      clear h3
      have hil := idxL_len b l.flatten
      rw [← hacc] at hil
      have hsort := sort_is (x :: xs) (by simp) (by omega)
      have hsl : (sortI (x :: xs)).length = (x :: xs).length := sort_len _
      have hcomp := compact_is (sortI (x :: xs)) (by rw [hsl]; simp) (by rw [hsl]; omega)
      have hcl := compact_len (sortI (x :: xs))
      rw [hsl] at hcomp
      have hcp : 0 < (Lib.compact (sortI (x :: xs))).length := by
        have := ((csort (x :: xs)).2 x).2 (by simp)
        exact List.length_pos_of_mem this
      have hclone := clonei_is (Lib.compact (sortI (x :: xs))) hcp (by omega)
      refine wc_exit ?_;refine seq_x ?_;refine loop_x ?_;refine blk_x ?_;refine seq_n ?_;refine sR ?_;refine rC ?_;refine reg_new2 (call_h [(0, some 65)] hsort rfl rfl rfl (arg_give rfl rfl arg_nil) ⟨⟨rfl, rfl, _, _, rfl, rfl, .refl _⟩, trivial⟩ rfl rfl (.inl rfl) rfl rfl) rfl ?_
      refine nR ?_;refine rC ?_;refine reg_new (call_h [(0, some 65)] hcomp rfl rfl rfl (arg_give rfl rfl arg_nil) ⟨⟨rfl, rfl, _, _, rfl, rfl, .refl _⟩, trivial⟩ rfl rfl (.inl rfl) rfl rfl) rfl ?_
      refine rQ (call_r hclone rfl rfl (arg_e arg_nil) (.inl rfl) (fun _ => rfl)) ?_;refine rQ (call_r (clipi_is _) rfl rfl (arg_e arg_nil) (.inl rfl) (fun _ => rfl)) ?_
      refine rC ?_;refine nS ?_;refine wc_ret ?_
      exact ⟨trivial, [], lf⟩
end Go.Proofs.YtmojbghcngdkpaaGreatDoor

namespace Go.Proofs.YtmojbghcngdkpaaGreatDoor
open Go.Eng Go.Plain
set_option maxHeartbeats 4000000
set_option maxRecDepth 20000
attribute [local irreducible] WC RegS RegD SeqQ BlkQ ScoQ RegK CutK Sat SatN FnIs LoopQ StepIs OpIs
def encV : Bool × POp → D
  | (true, o) => .cons (u8s o.kind) (.cons (i6 o.index) (.cons (.sc nil_) .nil))
  | (false, o) => encPOp o
theorem encV_size (x : Bool × POp) : (encV x).size = 3 := by obtain ⟨b, o⟩ := x; cases b <;> rfl
def VOk (x : Bool × POp) : Prop := x.1 = true → x.2.data = []
theorem encV_le {w : World} {X : Nat → Prop} {x : Bool × POp} (hx : VOk x) {cs : List Value} (h : Enc w X (encV x) cs) : Enc w X (encPOp x.2) cs := by
  obtain ⟨b, o⟩ := x
  cases b with
  | false => exact h
  | true =>
    have hd : o.data = [] := hx rfl
    obtain ⟨c1, r1, rfl, h1, c2, r2, rfl, h2, c3, r3, rfl, h3, h4⟩ := h
    exact ⟨c1, _, rfl, h1, c2, _, rfl, h2, c3, r3, rfl, .inl ⟨by rw [hd]; rfl, h3.1⟩, h4⟩
theorem dle_arr {α β : Type} {s : Nat} {enc : α → D} {enc' : β → D} {g : α → β} {xs : List α} {ys : List β} (hy : ys = xs.map g) (h : ∀ x ∈ xs, DLe (enc x) (enc' (g x))) : DLe (.arr s enc xs) (.arr s enc' ys) := by
  subst hy
  rintro w X cs (⟨rfl, rfl⟩ | ⟨a, c, rfl, h1, h2, f, hf⟩)
  · exact .inl ⟨rfl, rfl⟩
  · refine .inr ⟨a, c, by rw [List.length_map], by rw [List.length_map]; exact h1, h2, f, fun i hi => ?_⟩
    rw [List.length_map] at hi
    obtain ⟨g1, g2, g3⟩ := hf i hi
    refine ⟨?_, g2, g3⟩
    rw [List.getElem_map]
    exact h _ (List.getElem_mem _) _ _ _ g1
abbrev encPV (l : List (Bool × POp)) : D := .arr 3 encV l
theorem encPV_le {l : List (Bool × POp)} {p : List POp} (hp : p = l.map (·.2)) (hl : ∀ x ∈ l, VOk x) : DLe (encPV l) (encP p) := dle_arr hp fun x hx w X cs h => encV_le (hl x hx) h
theorem encPLV_le {l : List (List (Bool × POp))} {L : List (List POp)} (hp : L = l.map fun q => q.map (·.2)) (hl : ∀ q ∈ l, ∀ x ∈ q, VOk x) : DLe (.arr 1 encPV l) (encPL L) := dle_arr hp fun q hq => encPV_le rfl (hl q hq)
def pairV : List (List (Bool × POp)) := [[(true, ⟨1, 3, []⟩), (false, ⟨2, 1, [0, 255]⟩)], [(true, ⟨3, 0, []⟩)]]
def pairL : List (List POp) := [[⟨1, 3, []⟩, ⟨2, 1, [0, 255]⟩], [⟨3, 0, []⟩]]
theorem pairV_le : AVLe (.d (.arr 1 encPV pairV)) (.d (encPL pairL)) := AVLe.d (encPLV_le rfl (by
  intro q hq x hx
  simp only [pairV, List.mem_cons, List.not_mem_nil, or_false] at hq
  rcases hq with rfl | rfl <;> simp only [List.mem_cons, List.not_mem_nil, or_false] at hx
  · rcases hx with rfl | rfl
    · exact fun _ => rfl
    · exact fun h => by cases h
  · subst hx; exact fun _ => rfl)) rfl
abbrev vA : Bool × POp := (true, ⟨1, 3, []⟩)
abbrev vB : Bool × POp := (false, ⟨2, 1, [0, 255]⟩)
abbrev vC : Bool × POp := (true, ⟨3, 0, []⟩)
abbrev vAB : List (Bool × POp) := [vA, vB]
abbrev vC1 : List (Bool × POp) := [vC]
theorem pair_is : FnIs Tryz.prog 79 [] [] (.d (encPL pairL)) [] := by
  refine fnIs_of tab_ok Tryz.func79 rfl rfl rfl ?_;refine sR ?_;refine rC ?_;refine nR ?_;refine rQ iS ?_;refine reg_new (build_slice (s := 1) tab_ok rfl rfl rfl rfl rfl rfl rfl rfl) rfl ?_
  refine reg_freeze (env' := [(2, _), (1, _)]) (h' := []) 80 _ rfl ⟨⟨_, rfl, Frz.lits2 (enc := encU8) (0 : Int) (255 : Int) rfl rfl rfl rfl⟩, ⟨_, rfl, .refl _⟩, trivial⟩ trivial ?_
  refine rQ iS ?_;refine reg_new (build_slice (s := 3) tab_ok rfl rfl rfl rfl rfl rfl rfl rfl) rfl ?_;refine reg_freeze (env' := [(4, _)]) (h' := []) 96 _ rfl ⟨⟨_, rfl, Frz.lits2 (enc := encV) vA vB rfl rfl rfl rfl⟩, trivial⟩ trivial ?_
  refine rQ iS ?_;refine reg_new (build_slice (s := 3) tab_ok rfl rfl rfl rfl rfl rfl rfl rfl) rfl ?_;refine reg_freeze (env' := [(6, _), (4, _)]) (h' := []) 112 _ rfl ⟨⟨_, rfl, Frz.lits1 (enc := encV) vC rfl rfl⟩, ⟨_, rfl, .refl _⟩, trivial⟩ trivial ?_
  refine reg_new (build_slice (s := 1) tab_ok rfl rfl rfl rfl rfl rfl rfl rfl) rfl ?_;refine reg_freeze (env' := [(7, _)]) (h' := []) 120 _ rfl ⟨⟨_, rfl, Frz.lits2 (enc := encPV) vAB vC1 rfl rfl rfl rfl⟩, trivial⟩ trivial ?_
  refine rC ?_;refine nS ?_;refine wc_ret ?_
  exact ⟨trivial, [], .of rfl rfl rfl rfl rfl ⟨⟨_, rfl, pairV_le⟩, rfl, trivial⟩ trivial⟩
end Go.Proofs.YtmojbghcngdkpaaGreatDoor

namespace Go.Proofs.YtmojbghcngdkpaaGreatDoor
open Go.Eng Go.Plain
set_option maxHeartbeats 4000000
set_option maxRecDepth 20000
attribute [local irreducible] WC RegS RegD SeqQ BlkQ ScoQ RegK CutK Sat SatN FnIs LoopQ StepIs OpIs
structure PQ where
  kind : UInt8
  index : UInt8
  data : UInt8
def encQ (x : PQ) : D := .cons (u8s x.kind.toNat) (.cons (u8s x.index.toNat) (.cons (u8s x.data.toNat) .nil))
def qOf (x : PQ) : POp :=
  if x.kind.toNat % 9 < 4 then ⟨1, ((x.index.toNat % 22 : Nat) : Int) - 1, []⟩
  else if x.kind.toNat % 9 < 7 then ⟨2, ((x.index.toNat % 22 : Nat) : Int) - 1, List.replicate 32 x.data⟩
  else if x.kind.toNat % 9 = 8 then ⟨((x.data.toNat % 4 : Nat) : Int), (x.index.toNat : Int) - 100, List.replicate (x.index.toNat % 32) x.data⟩
  else ⟨3, 0, []⟩
theorem op_nil_le (k i : Int) : AVLe (.d (.cons (.sc (.int .u8 k)) (.cons (.sc (.int .i64 i)) (.cons (.sc nil_) .nil)))) (.d (encPOp ⟨k, i, []⟩)) :=
  AVLe.d (x := encV (true, ⟨k, i, []⟩)) (fun w X cs h => encV_le (x := (true, ⟨k, i, []⟩)) (fun _ => rfl) h) rfl
def fillL (d : Int) (n i : Nat) : List Int := List.replicate i d ++ List.replicate (n - i) 0
theorem fillL_zero (d : Int) (n : Nat) : fillL d n 0 = List.replicate n 0 := by simp [fillL]
theorem fillL_get {d : Int} {n i : Nat} (h : i < n) : (fillL d n i)[i]? = some 0 := by
  obtain ⟨k, hk⟩ : ∃ k, n - i = k + 1 := ⟨n - i - 1, by omega⟩
  rw [fillL, hk, List.getElem?_append_right (by simp), List.length_replicate, Nat.sub_self]
  rfl
theorem fillL_set {d : Int} {n i : Nat} (h : i < n) : (fillL d n i).set i d = fillL d n (i + 1) := by
  obtain ⟨k, hk⟩ : ∃ k, n - i = k + 1 := ⟨n - i - 1, by omega⟩
  rw [fillL, fillL, List.set_append_right _ _ (by simp), List.replicate_succ' (n := i), List.append_assoc, hk, show n - (i + 1) = k by omega, List.length_replicate, Nat.sub_self]
  rfl
theorem fillL_end (d : UInt8) (n : Nat) : fillL d.toNat n n = byI (List.replicate n d) := by simp [fillL, byI]
theorem qof_is (x : PQ) : FnIs Tryz.prog 91 [.d (encQ x)] [] (.d (encPOp (qOf x))) [] := by
  have hx1 := x.kind.toNat_lt
  have hx2 := x.index.toNat_lt
  have hx3 := x.data.toNat_lt
  refine fnIs_of tab_ok Tryz.func91 rfl rfl rfl ?_;refine sR ?_;iterate 2 refine rN ?_
  refine nR ?_;refine rQ iS ?_;refine rN ?_;refine rW ?_;refine nR ?_;refine reg_new (make_full (enc := encU8) (s := 1) (N := 32) tab_ok (0 : Int) rfl rfl rfl rfl rfl rfl rfl (by decide) rfl) rfl ?_
  refine rC ?_;refine nQ ?_;refine sR ?_;refine rC ?_;refine nS ?_;refine wc_block ?_
  refine wc_inv (fun i : Nat => ⟨[(5, .int .i64 i), (4, .own 67 0 32 1 none), (3, .ptr 66 []), (2, .ptr 65 []), (1, .ptr 64 [])], [(64, some (.box 102 (.d (encQ x)))), (65, some (.box 50 (.d (encV (true, opNil))))), (66, some (.box 50 (.d (encV (true, ⟨3, 0, []⟩))))), (67, some (.ds 5 1 true encU8 (fillL x.data.toNat 32 i)))], 72, Tryz.f91.ntmps, 64⟩) (fun i => i ≤ 32) (fun i => 32 - i) 0 [(64, some _), (65, some _), (66, some _), (67, some _)] (Nat.zero_le _)
    (.of rfl rfl rfl rfl rfl ⟨⟨_, rfl, .refl _⟩, rfl, ⟨_, rfl, .refl _⟩, rfl, ⟨_, rfl, .refl _⟩, rfl, ⟨_, rfl, .refl _⟩, rfl, ⟨_, rfl, .refl _⟩, rfl, trivial⟩ ⟨⟨rfl, rfl, _, rfl, .refl _⟩, ⟨rfl, rfl, _, rfl, .refl _⟩, ⟨rfl, rfl, _, rfl, .refl _⟩, ⟨rfl, rfl, _, rfl, RowLe.of_eq (by rw [fillL_zero]; rfl)⟩, trivial⟩) ?_
  intro i hi
  by_cases hlt : i < 32
  · have h3 : decide ((i : Int) < 32) = true := decide_eq_true (by omega)
    have hg : (fillL x.data.toNat 32 i)[((i : Int)).toNat]? = some 0 := by rw [Int.toNat_natCast]; exact fillL_get hlt
    have hset := fillL_set (d := (x.data.toNat : Int)) hlt
    refine wc_of ?_;refine qR ?_;iterate 2 refine rC ?_
    refine nS ?_;refine wT ?_;refine kS ?_;refine wc_seq ?_;refine wc_block ?_;refine wc_region ?_;iterate 3 refine rC ?_
    refine rQ iB ?_;refine rQ (index_own tab_ok rfl rfl rfl rfl rfl (by omega) (by omega)) ?_;refine reg_store (store_row tab_ok rfl rfl rfl ⟨rfl, (0 : Int), (x.data.toNat : Int), hg, ⟨rfl, rfl, rfl⟩, rfl⟩ rfl) ?_
    refine reg_nil ?_;refine blk_n ?_;refine seq_n ?_;refine wc_region ?_;refine rC ?_;refine rQ iD ?_;refine rC ?_;refine reg_nil ?_
    exact loop_n (i + 1) [] hlt (by omega) (.of rfl rfl rfl rfl rfl ⟨⟨_, rfl, .refl _⟩, rfl, ⟨_, rfl, .refl _⟩, rfl, ⟨_, rfl, .refl _⟩, rfl, ⟨_, rfl, .refl _⟩, rfl, ⟨_, rfl, .refl _⟩, rfl, trivial⟩ ⟨⟨rfl, rfl, _, rfl, .refl _⟩, ⟨rfl, rfl, _, rfl, .refl _⟩, ⟨rfl, rfl, _, rfl, .refl _⟩, ⟨rfl, rfl, _, rfl, RowLe.of_eq (congrArg (Row.ds 5 1 true encU8) hset)⟩, trivial⟩)
  · have he : i = 32 := by omega
    subst he
    rw [fillL_end]
    have h3 : decide (((32 : Nat) : Int) < 32) = false := rfl
    have hl32 : 32 = (byI (List.replicate 32 x.data)).length := by rw [byI_len, List.length_replicate]
    refine wc_of ?_;refine wc_freeze (env' := [(5, _), (4, _), (3, _), (2, _), (1, _)]) (h' := [(64, some _), (65, some _), (66, some _)]) 67 _ rfl ⟨⟨_, rfl, .refl _⟩, ⟨_, rfl, Frz.own hl32⟩, ⟨_, rfl, .refl _⟩, ⟨_, rfl, .refl _⟩, ⟨_, rfl, .refl _⟩, trivial⟩ ⟨⟨rfl, _, rfl, .refl _⟩, ⟨rfl, _, rfl, .refl _⟩, ⟨rfl, _, rfl, .refl _⟩, trivial⟩ ?_
    have hw27 : IntKind.i64.wrap ((x.index.toNat % 22 : Nat) : Int) = ((x.index.toNat % 22 : Nat) : Int) := wrap_i64 (by omega) (by omega)
    have hw48 : IntKind.i64.wrap (x.index.toNat : Int) = (x.index.toNat : Int) := wrap_i64 (by omega) (by omega)
    have h54 : ((x.index.toNat % 32 : Nat) : Int) ≤ (byI (List.replicate 32 x.data)).length := by rw [byI_len, List.length_replicate]; omega
    by_cases q4 : x.kind.toNat % 9 < 4
    · have d4 : decide (((x.kind.toNat % 9 : Nat) : Int) < 4) = true := decide_eq_true (by omega)
      rw [show qOf x = ⟨1, ((x.index.toNat % 22 : Nat) : Int) - 1, []⟩ by rw [qOf, if_pos q4]]
      refine qR ?_;iterate 2 refine rC ?_
      refine nS ?_;refine wG ?_;refine wc_exit ?_;refine seq_x ?_;refine loop_x ?_;refine blk_x ?_;refine seq_n ?_;refine qR ?_;refine rC ?_;refine rQ iB ?_;refine rQ (rem_nat (a := x.kind.toNat) (b := 9) tab_ok rfl rfl rfl (by decide)) ?_
      refine rC ?_;refine nS ?_;refine wc_block ?_;refine sR ?_;iterate 3 refine rC ?_
      refine nS ?_;refine wT ?_;refine wc_region ?_;refine rC ?_;refine rQ iB ?_;refine rQ (rem_nat (a := x.index.toNat) (b := 22) tab_ok rfl rfl rfl (by decide)) ?_;refine rQ (conv_int (m := ((x.index.toNat % 22 : Nat) : Int)) tab_ok rfl rfl rfl hw27) ?_
      refine rQ (sub_int tab_ok rfl rfl (wrap_i64 (by omega) (by omega))) ?_;refine rQ iS ?_;refine rW ?_;refine reg_nil ?_;refine blk_n ?_;refine seq_n ?_;refine sR ?_
      refine rQ iM ?_;refine rW ?_;refine nS ?_;refine wc_ret ?_
      exact ⟨trivial, _, rfl, [], .of rfl rfl rfl rfl rfl ⟨⟨_, rfl, op_nil_le _ _⟩, rfl, trivial⟩ trivial⟩
    have d4 : decide (((x.kind.toNat % 9 : Nat) : Int) < 4) = false := decide_eq_false (by omega)
    by_cases q7 : x.kind.toNat % 9 < 7
    · have d7 : decide (((x.kind.toNat % 9 : Nat) : Int) < 7) = true := decide_eq_true (by omega)
      rw [show qOf x = ⟨2, ((x.index.toNat % 22 : Nat) : Int) - 1, List.replicate 32 x.data⟩ by rw [qOf, if_neg q4, if_pos q7]]
      refine qR ?_;iterate 2 refine rC ?_
      refine nS ?_;refine wG ?_;refine wc_exit ?_;refine seq_x ?_;refine loop_x ?_;refine blk_x ?_;refine seq_n ?_;refine qR ?_;refine rC ?_;refine rQ iB ?_;refine rQ (rem_nat (a := x.kind.toNat) (b := 9) tab_ok rfl rfl rfl (by decide)) ?_
      refine rC ?_;refine nS ?_;refine wc_block ?_;refine sR ?_;iterate 3 refine rC ?_
      refine nS ?_;refine wF ?_;refine sR ?_;iterate 3 refine rC ?_
      refine nS ?_;refine wT ?_;refine wc_region ?_;refine rC ?_;refine rQ iB ?_;refine rQ (rem_nat (a := x.index.toNat) (b := 22) tab_ok rfl rfl rfl (by decide)) ?_;refine rQ (conv_int (m := ((x.index.toNat % 22 : Nat) : Int)) tab_ok rfl rfl rfl hw27) ?_
      refine rQ (sub_int tab_ok rfl rfl (wrap_i64 (by omega) (by omega))) ?_;refine rC ?_;refine rQ iS ?_;refine rW ?_;refine reg_nil ?_;refine blk_n ?_;refine seq_n ?_
      refine sR ?_;refine rQ iM ?_;refine rW ?_;refine nS ?_;refine wc_ret ?_
      exact ⟨trivial, _, rfl, [], lf⟩
    have d7 : decide (((x.kind.toNat % 9 : Nat) : Int) < 7) = false := decide_eq_false (by omega)
    by_cases q8 : x.kind.toNat % 9 = 8
    · have d8 : decide (((x.kind.toNat % 9 : Nat) : Int) = 8) = true := decide_eq_true (by omega)
      rw [show qOf x = ⟨((x.data.toNat % 4 : Nat) : Int), (x.index.toNat : Int) - 100, List.replicate (x.index.toNat % 32) x.data⟩ by rw [qOf, if_neg q4, if_neg q7, if_pos q8]]
      have ht : (byI (List.replicate 32 x.data)).take (((x.index.toNat % 32 : Nat) : Int)).toNat = byI (List.replicate (x.index.toNat % 32) x.data) := by
        rw [Int.toNat_natCast, byI, byI, ← List.map_take, List.take_replicate, Nat.min_eq_left (by omega)]
      refine qR ?_;iterate 2 refine rC ?_
      refine nS ?_;refine wG ?_;refine wc_exit ?_;refine seq_x ?_;refine loop_x ?_;refine blk_x ?_;refine seq_n ?_;refine qR ?_;refine rC ?_;refine rQ iB ?_;refine rQ (rem_nat (a := x.kind.toNat) (b := 9) tab_ok rfl rfl rfl (by decide)) ?_
      refine rC ?_;refine nS ?_;refine wc_block ?_;refine sR ?_;iterate 3 refine rC ?_
      refine nS ?_;refine wF ?_;refine sR ?_;iterate 3 refine rC ?_
      refine nS ?_;refine wF ?_;refine sR ?_;iterate 3 refine rC ?_
      refine nS ?_;refine wT ?_;refine wc_draw (by kernel_rfl) ?_;refine dC [1] [64] ?_;refine dQ [43] [64] iB ?_;refine dQ [44] [] (rem_nat (a := x.data.toNat) (b := 4) tab_ok rfl rfl rfl (by decide)) ?_
      refine dC [1] [64] ?_;refine dQ [46] [64] iB ?_;refine dQ [47] [] (conv_int (m := (x.index.toNat : Int)) tab_ok rfl rfl rfl hw48) ?_;refine dQ [48] [] (sub_int tab_ok rfl rfl (wrap_i64 (by omega) (by omega))) ?_
      refine dC [4] [] ?_;refine dC [1] [64] ?_;refine dQ [51] [64] iB ?_;refine dQ [52] [] (rem_nat (a := x.index.toNat) (b := 32) tab_ok rfl rfl rfl (by decide)) ?_
      refine dQ [50, 53] [] (slice_to (m := ((x.index.toNat % 32 : Nat) : Int)) tab_ok rfl rfl rfl rfl (by omega) h54) ?_;refine dQ [45, 49, 54] [] iS ?_;refine dreg_s [3, 55] [66] (store_row tab_ok rfl rfl rfl ⟨_, ⟨rfl, rfl, rfl⟩, rfl⟩ rfl) ?_
      refine dreg_end (by kernel_rfl) ?_;refine blk_n ?_;refine seq_n ?_;refine sR ?_;refine rQ iM ?_;refine rW ?_;refine nS ?_;refine wc_ret ?_
      rw [ht]
      exact ⟨trivial, _, rfl, [], lf⟩
    · have d8 : decide (((x.kind.toNat % 9 : Nat) : Int) = 8) = false := decide_eq_false (by omega)
      rw [show qOf x = ⟨3, 0, []⟩ by rw [qOf, if_neg q4, if_neg q7, if_neg q8]]
      refine qR ?_;iterate 2 refine rC ?_
      refine nS ?_;refine wG ?_;refine wc_exit ?_;refine seq_x ?_;refine loop_x ?_;refine blk_x ?_;refine seq_n ?_;refine qR ?_;refine rC ?_;refine rQ iB ?_;refine rQ (rem_nat (a := x.kind.toNat) (b := 9) tab_ok rfl rfl rfl (by decide)) ?_
      refine rC ?_;refine nS ?_;refine wc_block ?_;refine sR ?_;iterate 3 refine rC ?_
      refine nS ?_;refine wF ?_;refine sR ?_;iterate 3 refine rC ?_
      refine nS ?_;refine wF ?_;refine sR ?_;iterate 3 refine rC ?_
      refine nS ?_;refine wF ?_;refine wc_skip ?_;refine blk_n ?_;refine seq_n ?_;refine sR ?_;refine rQ iM ?_;refine rW ?_;refine nS ?_;refine wc_ret ?_
      exact ⟨trivial, _, rfl, [], .of rfl rfl rfl rfl rfl ⟨⟨_, rfl, op_nil_le _ _⟩, rfl, trivial⟩ trivial⟩
end Go.Proofs.YtmojbghcngdkpaaGreatDoor

namespace Go.Proofs.YtmojbghcngdkpaaGreatDoor
open Go.Eng Go.Plain
set_option maxHeartbeats 4000000
set_option maxRecDepth 20000
attribute [local irreducible] WC RegS RegD SeqQ BlkQ ScoQ RegK CutK Sat SatN FnIs LoopQ StepIs OpIs
abbrev encQs (q : List PQ) : D := .arr 3 encQ q
def encPP (l : List (List PQ)) : D := .cons (.arr 1 encQs l) .nil
def opsOf (q : List PQ) : List POp := (q.take 3).map qOf
def pOf (l : List (List PQ)) : List (List POp) := (l.take 3).map opsOf
theorem take3 {α : Type} {l : List α} {i : Nat} (h : i ≤ 3) (h2 : i = l.length ∨ i = 3) : l.take i = l.take 3 := by
  rcases h2 with rfl | rfl
  · rw [List.take_length, List.take_of_length_le h]
  · rfl
theorem pof_own (l : List (List PQ)) : FnIs Tryz.prog 46 [.d (encPP l)] [] (.own 64 0 (pOf l).length 1 none) [(64, .ds 77 1 false encP (pOf l))] := by
  refine fnIs_of tab_ok Tryz.func46 rfl rfl rfl ?_;refine sR ?_;refine rN ?_;refine rC ?_;refine nR ?_;refine rC ?_;refine nQ ?_;refine sR ?_;refine rC ?_;refine nS ?_
  refine wc_block ?_
  refine wc_inv (fun i : Nat => ⟨[(4, .int .i64 i), (3, .own 65 0 ((l.take i).map opsOf).length 1 none), (1, .ptr 64 [])], [(64, some (.box 89 (.d (encPP l)))), (65, some (.ds 77 1 false encP ((l.take i).map opsOf)))], 72, Tryz.f46.ntmps, 64⟩) (fun i => i ≤ l.length ∧ i ≤ 3) (fun i => l.length - i) 0 [(64, some _), (65, none)] ⟨Nat.zero_le _, by decide⟩
    (.of rfl rfl rfl rfl rfl ⟨⟨_, rfl, .refl _⟩, rfl, ⟨_, rfl, .refl _⟩, rfl, ⟨_, rfl, .refl _⟩, rfl, trivial⟩ ⟨⟨rfl, rfl, _, rfl, .refl _⟩, ⟨rfl, rfl, rfl⟩, trivial⟩) ?_
  intro i hi
  obtain ⟨hi, hi3⟩ := hi
  by_cases hlt : i < l.length ∧ i < 3
  · obtain ⟨h1, h2⟩ := hlt
    have d1 : decide ((i : Int) < (l.length : Int)) = true := decide_eq_true (by omega)
    have d2 : decide ((i : Int) < 3) = true := decide_eq_true (by omega)
    obtain ⟨q, hq0⟩ : ∃ q, l[i]? = some q := ⟨_, List.getElem?_eq_getElem h1⟩
    have hq : l[((i : Int)).toNat]? = some q := by rw [Int.toNat_natCast]; exact hq0
    have htk : (l.take (i + 1)).map opsOf = (l.take i).map opsOf ++ [opsOf q] := by rw [List.take_add_one, hq0]; simp
    have hln : ((l.take i).map opsOf).length = i := by rw [List.length_map, List.length_take]; omega
    have hB : ((l.take i).map opsOf).length + 1 ≤ 1048576 := by omega
    have hlq : ((l.take (i + 1)).map opsOf).length = ((l.take i).map opsOf).length + 1 := by rw [htk]; simp
    refine wc_of ?_;refine qR ?_;iterate 2 refine rC ?_
    refine rQ iB ?_;refine rQ iE ?_;iterate 2 refine rC ?_
    refine rO ?_;refine rC ?_;refine rO ?_;refine rC ?_;refine rQ iT ?_;refine nS ?_;refine wT ?_;refine kS ?_;refine wc_seq ?_;refine wc_block ?_;refine sR ?_;refine rC ?_
    refine nQ ?_;refine sR ?_;refine rC ?_;refine nS ?_;refine wc_block ?_
    refine wc_inv (fun j : Nat => ⟨[(6, .int .i64 j), (5, .own 66 0 ((q.take j).map qOf).length 3 none), (4, .int .i64 i), (3, .own 65 0 ((l.take i).map opsOf).length 1 none), (1, .ptr 64 [])], [(64, some (.box 89 (.d (encPP l)))), (65, some (.ds 77 1 false encP ((l.take i).map opsOf))), (66, some (.ds 50 3 false encPOp ((q.take j).map qOf)))], 72, Tryz.f46.ntmps, 64⟩) (fun j => j ≤ q.length ∧ j ≤ 3) (fun j => q.length - j) 0 [(66, none)] ⟨Nat.zero_le _, by decide⟩
      (.of rfl rfl rfl rfl rfl ⟨⟨_, rfl, .refl _⟩, rfl, ⟨_, rfl, .refl _⟩, rfl, ⟨_, rfl, .refl _⟩, rfl, ⟨_, rfl, .refl _⟩, rfl, ⟨_, rfl, .refl _⟩, rfl, trivial⟩ ⟨⟨rfl, rfl, _, rfl, .refl _⟩, ⟨rfl, rfl, _, rfl, .refl _⟩, ⟨rfl, rfl, rfl⟩, trivial⟩) ?_
    intro j hj
    obtain ⟨hj, hj3⟩ := hj
    by_cases hjl : j < q.length ∧ j < 3
    · obtain ⟨h3, h4⟩ := hjl
      have d3 : decide ((j : Int) < (q.length : Int)) = true := decide_eq_true (by omega)
      have d4 : decide ((j : Int) < 3) = true := decide_eq_true (by omega)
      obtain ⟨x, hx0⟩ : ∃ x, q[j]? = some x := ⟨_, List.getElem?_eq_getElem h3⟩
      have hx : q[((j : Int)).toNat]? = some x := by rw [Int.toNat_natCast]; exact hx0
      have htj : (q.take (j + 1)).map qOf = (q.take j).map qOf ++ [qOf x] := by rw [List.take_add_one, hx0]; simp
      have hlj : ((q.take (j + 1)).map qOf).length = ((q.take j).map qOf).length + 1 := by rw [htj]; simp
      have hA : ((q.take j).map qOf).length + 1 ≤ 1048576 := by rw [List.length_map, List.length_take]; omega
      refine wc_of ?_;refine qR ?_;iterate 2 refine rC ?_
      refine rQ iB ?_;refine rC ?_;refine rQ (index_arr tab_ok rfl rfl rfl rfl rfl (by omega) hq) ?_;refine rQ iL ?_;refine rQ iE ?_;iterate 2 refine rC ?_
      refine rO ?_;refine rC ?_;refine rO ?_;refine rC ?_;refine rQ iT ?_;refine nS ?_;refine wT ?_;refine kS ?_;refine wc_seq ?_;refine wc_block ?_;refine wc_region ?_
      iterate 2 refine rC ?_
      refine rQ iB ?_;refine rC ?_;refine rQ (index_arr tab_ok rfl rfl rfl rfl rfl (by omega) hq) ?_;refine rQ iL ?_;refine rC ?_;refine rQ (index_arr tab_ok rfl rfl rfl rfl rfl (by omega) hx) ?_
      refine rQ iL ?_;refine rQ (call_r (qof_is x) rfl rfl (arg_e arg_nil) (.inl rfl) (fun _ => rfl)) ?_;refine reg_new (build_slice (s := 3) tab_ok rfl rfl rfl rfl rfl rfl rfl rfl) rfl ?_
      refine reg_new2 (append_one (xs := (q.take j).map qOf) (s := 3) (enc := encPOp) tab_ok (qOf x) rfl rfl rfl rfl rfl rfl rfl rfl rfl hA rfl) rfl ?_;refine rC ?_;refine reg_nil ?_
      refine blk_n ?_;refine seq_n ?_;refine wc_region ?_;refine rC ?_;refine rQ iD ?_;refine rC ?_;refine reg_nil ?_
      exact loop_n (j + 1) [(66, some _)] ⟨h3, by omega⟩ (by omega) (.of rfl rfl rfl rfl rfl ⟨⟨_, rfl, .refl _⟩, rfl, ⟨_, rfl, AVLe.of_eq (by rw [hlj]; rfl)⟩, rfl, ⟨_, rfl, .refl _⟩, rfl, ⟨_, rfl, .refl _⟩, rfl, ⟨_, rfl, .refl _⟩, rfl, trivial⟩ ⟨⟨rfl, rfl, _, rfl, .refl _⟩, ⟨rfl, rfl, _, rfl, .refl _⟩, ⟨rfl, rfl, _, rfl, RowLe.of_eq (by rw [htj]; rfl)⟩, trivial⟩)
    · have hops : (q.take j).map qOf = opsOf q := by rw [opsOf, take3 hj3 (by omega)]
      rw [hops]
      refine wc_of ?_;refine wc_freeze (env' := [(6, _), (5, _), (4, _), (3, _), (1, _)]) (h' := [(64, some _), (65, some _)]) 66 _ rfl ⟨⟨_, rfl, .refl _⟩, ⟨_, rfl, Frz.own rfl⟩, ⟨_, rfl, .refl _⟩, ⟨_, rfl, .refl _⟩, ⟨_, rfl, .refl _⟩, trivial⟩ ⟨⟨rfl, _, rfl, .refl _⟩, ⟨rfl, _, rfl, .refl _⟩, trivial⟩ ?_
      by_cases h5 : j < q.length
      · have d3 : decide ((j : Int) < (q.length : Int)) = true := decide_eq_true (by omega)
        have d4 : decide ((j : Int) < 3) = false := decide_eq_false (by omega)
        refine qR ?_;iterate 2 refine rC ?_
        refine rQ iB ?_;refine rC ?_;refine rQ (index_arr tab_ok rfl rfl rfl rfl rfl (by omega) hq) ?_;refine rQ iL ?_;refine rQ iE ?_;iterate 2 refine rC ?_
        refine rO ?_;refine rC ?_;refine rO ?_;refine rC ?_;refine rQ iT ?_;refine nS ?_;refine wF ?_;refine wc_exit ?_;refine seq_x ?_;refine loop_x ?_;refine blk_x ?_
        refine seq_n ?_;refine wc_region ?_;iterate 2 refine rC ?_
        refine reg_new (build_slice (s := 1) tab_ok rfl rfl rfl rfl rfl rfl rfl rfl) rfl ?_;refine reg_new2 (append_one (xs := (l.take i).map opsOf) (s := 1) (enc := encP) tab_ok (opsOf q) rfl rfl rfl rfl rfl rfl rfl rfl rfl hB rfl) rfl ?_
        refine rC ?_;refine reg_nil ?_;refine blk_n ?_;refine seq_n ?_;refine wc_region ?_;refine rC ?_;refine rQ iD ?_;refine rC ?_;refine reg_nil ?_
        exact loop_n (i + 1) [(65, some _)] ⟨h1, by omega⟩ (by omega) (.of rfl rfl rfl rfl rfl ⟨⟨_, rfl, .refl _⟩, rfl, ⟨_, rfl, AVLe.of_eq (by rw [hlq]; rfl)⟩, rfl, ⟨_, rfl, .refl _⟩, rfl, trivial⟩ ⟨⟨rfl, rfl, _, rfl, .refl _⟩, ⟨rfl, rfl, _, rfl, RowLe.of_eq (by rw [htk]; rfl)⟩, trivial⟩)
      · have d3 : decide ((j : Int) < (q.length : Int)) = false := decide_eq_false (by omega)
        refine qR ?_;iterate 2 refine rC ?_
        refine rQ iB ?_;refine rC ?_;refine rQ (index_arr tab_ok rfl rfl rfl rfl rfl (by omega) hq) ?_;refine rQ iL ?_;refine rQ iE ?_;iterate 2 refine rC ?_
        iterate 2 refine rS ?_
        refine rQ iF ?_;refine nS ?_;refine wG ?_;refine wc_exit ?_;refine seq_x ?_;refine loop_x ?_;refine blk_x ?_;refine seq_n ?_;refine wc_region ?_;iterate 2 refine rC ?_
        refine reg_new (build_slice (s := 1) tab_ok rfl rfl rfl rfl rfl rfl rfl rfl) rfl ?_;refine reg_new2 (append_one (xs := (l.take i).map opsOf) (s := 1) (enc := encP) tab_ok (opsOf q) rfl rfl rfl rfl rfl rfl rfl rfl rfl hB rfl) rfl ?_
        refine rC ?_;refine reg_nil ?_;refine blk_n ?_;refine seq_n ?_;refine wc_region ?_;refine rC ?_;refine rQ iD ?_;refine rC ?_;refine reg_nil ?_
        exact loop_n (i + 1) [(65, some _)] ⟨h1, by omega⟩ (by omega) (.of rfl rfl rfl rfl rfl ⟨⟨_, rfl, .refl _⟩, rfl, ⟨_, rfl, AVLe.of_eq (by rw [hlq]; rfl)⟩, rfl, ⟨_, rfl, .refl _⟩, rfl, trivial⟩ ⟨⟨rfl, rfl, _, rfl, .refl _⟩, ⟨rfl, rfl, _, rfl, RowLe.of_eq (by rw [htk]; rfl)⟩, trivial⟩)
  · have hops : (l.take i).map opsOf = pOf l := by rw [pOf, take3 hi3 (by omega)]
    rw [hops]
    refine wc_of ?_
    by_cases h5 : i < l.length
    · have d1 : decide ((i : Int) < (l.length : Int)) = true := decide_eq_true (by omega)
      have d2 : decide ((i : Int) < 3) = false := decide_eq_false (by omega)
      refine qR ?_;iterate 2 refine rC ?_
      refine rQ iB ?_;refine rQ iE ?_;iterate 2 refine rC ?_
      refine rO ?_;refine rC ?_;refine rO ?_;refine rC ?_;refine rQ iT ?_;refine nS ?_;refine wF ?_;refine wc_exit ?_;refine seq_x ?_;refine loop_x ?_;refine blk_x ?_
      refine seq_n ?_;refine sR ?_;iterate 2 refine rC ?_
      refine nS ?_;refine wc_ret ?_
      exact ⟨trivial, [(64, some 65)], .of rfl rfl rfl rfl rfl ⟨⟨_, rfl, AVLe.of_eq rfl⟩, rfl, trivial⟩ ⟨⟨rfl, rfl, _, rfl, .refl _⟩, trivial⟩⟩
    · have d1 : decide ((i : Int) < (l.length : Int)) = false := decide_eq_false (by omega)
      refine qR ?_;iterate 2 refine rC ?_
      refine rQ iB ?_;refine rQ iE ?_;iterate 2 refine rC ?_
      iterate 2 refine rS ?_
      refine rQ iF ?_;refine nS ?_;refine wG ?_;refine wc_exit ?_;refine seq_x ?_;refine loop_x ?_;refine blk_x ?_;refine seq_n ?_;refine sR ?_;iterate 2 refine rC ?_
      refine nS ?_;refine wc_ret ?_
      exact ⟨trivial, [(64, some 65)], .of rfl rfl rfl rfl rfl ⟨⟨_, rfl, AVLe.of_eq rfl⟩, rfl, trivial⟩ ⟨⟨rfl, rfl, _, rfl, .refl _⟩, trivial⟩⟩
theorem pof_is (l : List (List PQ)) : FnIs Tryz.prog 46 [.d (encPP l)] [] (.d (encPL (pOf l))) [] := (pof_own l).freeze_out 64 _ rfl (Frz.own rfl) trivial
end Go.Proofs.YtmojbghcngdkpaaGreatDoor

namespace Go.Eng
open Go.RowKit
variable {P : Program} {op : Op} {env : Env} {h : Upds} {n : Nat} {av av' : AV} {row : Row}
theorem StepIs.frozen (hs : StepIs P op env h n (some av) [(n, some row)]) (hf : Frz n row av av') : StepIs P op env h n (some av') [] := by
  intro C G st σ w a o ho hA hd hst hn hb next Q hnext
  refine hs C G st σ w a o ho hA hd hst hn hb next Q fun x w' σ' G' hst' h1 h2 => ?_
  have hnr : ∀ q row', st.row q = some row' → q ≠ n := fun q row' hq e => by
    subst e
    exact hn q (Nat.le_refl _) (by omega) (hst.rowsG _ _ hq).1
  have hrow : (st.put o.dst (some av) [(n, some row)]).row n = some row := by
    simp [St.put, St.row, lk_cons]
  have hrow2 : ∀ q row', q ≠ n → st.row q = some row' → (st.put o.dst (some av) [(n, some row)]).row q = some row' := fun q row' hq hr => by
    simp only [St.put, St.row, List.cons_append, List.nil_append, lk_cons, if_neg (Ne.symm hq)]
    exact hr
  refine hnext x w' σ' G' (hst'.freeze (st' := st.put o.dst (some av') []) n row hrow (fun i v' hi => ?_) (fun q x' hq => ?_) rfl rfl) h1 h2
  · cases hdst : o.dst with
    | none =>
      simp only [St.put, hdst] at hi ⊢
      exact ⟨v', hi, .refl _⟩
    | some d =>
      simp only [St.put, hdst, lk_cons] at hi ⊢
      split at hi
      · rename_i e
        rw [if_pos e]
        simp only [Option.some.injEq] at hi
        exact ⟨av, rfl, by rw [← hi]; exact hf⟩
      · rename_i e
        rw [if_neg e]
        exact ⟨v', hi, .refl _⟩
  · have hq' : st.row q = some x' := hq
    exact ⟨hnr q x' hq', x', hrow2 q x' (hnr q x' hq') hq', .refl _⟩
end Go.Eng

namespace Go.Eng
open Go.RowKit
variable {P : Program} {T : Tab} {env : Env} {h : Upds} {n : Nat}
def offsA (e s : Nat) : Nat → List (Nat × Nat)
  | 0 => []
  | k + 1 => offsA e s k ++ [(k * s, e)]
theorem offsA_len (e s : Nat) : ∀ k, (offsA e s k).length = k
  | 0 => rfl
  | k + 1 => by rw [offsA, List.length_append, offsA_len e s k]; rfl
theorem offsA_get {e s : Nat} : ∀ (m k o t : Nat), (offsA e s m)[k]? = some (o, t) → t = e ∧ o = k * s
  | 0, k, o, t, h => by simp [offsA] at h
  | m + 1, k, o, t, h => by
    rw [offsA] at h
    rcases Nat.lt_or_ge k m with hk | hk
    · rw [List.getElem?_append_left (by rw [offsA_len]; exact hk)] at h
      exact offsA_get m k o t h
    · rw [List.getElem?_append_right (by rw [offsA_len]; exact hk), offsA_len] at h
      have : k - m = 0 := by
        rcases Nat.eq_zero_or_pos (k - m) with e | e
        · exact e
        · rw [List.getElem?_eq_none (by simp; omega)] at h; cases h
      rw [this] at h
      simp only [List.getElem?_cons_zero, Option.some.injEq, Prod.mk.injEq] at h
      have e : k = m := by omega
      subst e
      exact ⟨h.2.symm, h.1.symm⟩
theorem build_arr (hT : TabOk P T) {t e len : Nat} {r re : TyR} {parts : Array (Nat × Operand)} {q : AV} (ht : lk T t = some r) (hd : r.desc = .array len e) (he : lk T e = some re) (hq : buildF T (offsA e re.size len) (evalA env) parts.toList (.d r.zero) = some q) (hag : q.isAgg = true) :
    StepIs P (.build t parts) env h n (some q) [] := .of_comes fun C G st σ w a o ho hA hdst hst hn => by
  obtain ⟨u, hu, hdu⟩ := (hT t r ht).und
  rw [hd] at hdu
  cases hdu
  obtain ⟨z, hz, hzc⟩ := (hT t r ht).run_zero w
  have henc : Rel σ w (st.X C.X0 σ) (.d r.zero) false z.cells.toList := by rw [← hzc]; exact Enc.closed _ _ _ (hT t r ht).zero
  obtain ⟨cs', hfill, h1, h2, h3⟩ := buildF_sound hT hst hA (pl := fun k => some (k * re.size, re.size)) (fun k o t' r' ho hr' => by
    obtain ⟨rfl, rfl⟩ := offsA_get _ _ _ _ ho
    rw [he] at hr'
    cases hr'
    rfl) parts.toList (.d r.zero) q z.cells.toList hq rfl trivial henc
  refine .quiet (u := .agg cs'.toArray) hst hdst ⟨rfl, rfl⟩ ?_ (by unfold RelV; rw [if_pos hag]; exact ⟨cs', rfl, h1⟩) h3
  have hcs : z.cells.toList.toArray = z.cells := by simp
  have hpt : (parts.map fun x => (x.1, a.eval x.2)).toList = parts.toList.map fun x => (x.1, a.eval x.2) := by simp
  rw [hcs, ← hpt] at hfill
  have hb : (Instr.build t (parts.map fun x => (x.1, a.eval x.2))).run P w = .ok (.agg cs'.toArray) w := by
    simp only [Instr.build, Sem.run_bind, hz, Result.andThen_ok, run_underlying hu, (hT e re he).run_size, hfill, Sem.run_pure]
  simp only [execOp, ho, Sem.run_bind]
  rw [show (parts.map fun (x : Nat × Operand) => match x with | (i, x) => (i, a.eval x)) = parts.map fun x => (x.1, a.eval x.2) from rfl, hb]
  rfl
end Go.Eng

namespace Go.Proofs.YtmojbghcngdkpaaGreatDoor
open Go.Eng Go.Plain
def tx1 : List UInt8 := [99, 108, 105, 101, 110, 116, 10, 114, 101, 97, 100, 32, 51, 10, 119, 114, 105, 116, 101, 32, 49, 32, 48, 48, 102, 102, 10, 99, 108, 105, 101, 110, 116, 10, 102, 108, 117, 115, 104, 10]
def tx2 : List UInt8 := [99, 108, 105, 101, 110, 116, 10, 111, 112, 32, 51, 32, 55, 32, 45, 10, 119, 114, 105, 116, 101, 32, 48, 32, 45, 10, 111, 112, 32, 49, 32, 49, 32, 48, 97, 10]
def list2 : List (List POp) := [[⟨3, 7, []⟩, ⟨2, 0, []⟩, ⟨1, 1, [10]⟩]]
abbrev vD : Bool × POp := (true, ⟨3, 7, []⟩)
abbrev vE : Bool × POp := (true, ⟨2, 0, []⟩)
abbrev vF : Bool × POp := (false, ⟨1, 1, [10]⟩)
abbrev list2V : List (List (Bool × POp)) := [[vD, vE, vF]]
theorem text_pair : textP pairL = tx1 := by decide +kernel
theorem text_list2 : textP list2 = tx2 := by decide +kernel
def px0 : List UInt8 := [99, 108, 105, 101, 110, 116, 10, 114, 101, 97, 100, 32, 51]
def px1 : List UInt8 := [99, 108, 105, 101, 110, 116, 10, 111, 112, 32, 49, 32, 51, 32, 45, 10]
def px2 : List UInt8 := [114, 101, 97, 100, 32, 51, 10]
def px3 : List UInt8 := [99, 108, 105, 101, 110, 116, 10, 114, 101, 97, 100, 32, 48, 51, 10]
theorem parse_by {s : List UInt8} {x : List (List POp) × Nat × Int} (h : parseR (splitL s 10) 0 [] = x) : parseP s [] 1 = x := by
  rw [← h]
  exact (parse_same s.length s [] 0 (Nat.le_refl _) rfl).symm
theorem parse_px0 : parseP px0 [] 1 = ([], 2, 5) := parse_by (by decide +kernel)
theorem parse_px1 : parseP px1 [] 1 = ([], 2, 5) := parse_by (by decide +kernel)
theorem parse_px2 : parseP px2 [] 1 = ([], 1, 5) := parse_by (by decide +kernel)
theorem parse_px3 : parseP px3 [] 1 = ([], 2, 5) := parse_by (by decide +kernel)
def okB (o : POp) : Bool := decide (0 ≤ o.kind) && decide (o.kind ≤ 255) && decide (-9223372036854775808 ≤ o.index) && decide (o.index ≤ 9223372036854775807)
theorem okL_of {l : List (List POp)} (h : l.all (fun p => p.all okB) = true) : OkL l := fun p hp o ho => by
  have := List.all_eq_true.1 (List.all_eq_true.1 h p hp) o ho
  simp only [okB, Bool.and_eq_true, decide_eq_true_eq] at this
  exact ⟨⟨this.1.1.1, this.1.1.2⟩, this.1.2, this.2⟩
def trip : List (List POp) := pairL ++ [[⟨2, 1, List.replicate 32 0⟩]]
theorem tou_trip : touL 4 trip.flatten = [1, 3] := by decide +kernel
theorem tou_pair : touL 2 pairL.flatten = [] := by decide +kernel
end Go.Proofs.YtmojbghcngdkpaaGreatDoor

namespace Go.Proofs.YtmojbghcngdkpaaGreatDoor
open Go.Eng Go.Plain
set_option maxHeartbeats 4000000
set_option maxRecDepth 20000
attribute [local irreducible] WC RegS RegD SeqQ BlkQ ScoQ RegK CutK Sat SatN FnIs LoopQ StepIs OpIs
theorem pair_own : FnIs Tryz.prog 79 [] [] (.own 64 0 2 1 none) [(64, .ds 77 1 true encPV pairV)] := by
  refine fnIs_of tab_ok Tryz.func79 rfl rfl rfl ?_;refine sR ?_;refine rC ?_;refine nR ?_;refine rQ iS ?_;refine rQ (StepIs.frozen (build_slice (s := 1) tab_ok rfl rfl rfl rfl rfl rfl rfl rfl) (Frz.lits2 (enc := encU8) (0 : Int) (255 : Int) rfl rfl rfl rfl)) ?_
  refine rQ iS ?_;refine rQ (StepIs.frozen (build_slice (s := 3) tab_ok rfl rfl rfl rfl rfl rfl rfl rfl) (Frz.lits2 (enc := encV) vA vB rfl rfl rfl rfl)) ?_;refine rQ iS ?_
  refine rQ (StepIs.frozen (build_slice (s := 3) tab_ok rfl rfl rfl rfl rfl rfl rfl rfl) (Frz.lits1 (enc := encV) vC rfl rfl)) ?_;refine reg_new (build_slice (s := 1) tab_ok rfl rfl rfl rfl rfl rfl rfl rfl) rfl ?_
  refine rC ?_;refine nS ?_;refine wc_ret ?_
  exact ⟨trivial, [(64, some _)], .of rfl rfl rfl rfl rfl ⟨⟨_, rfl, AVLe.of_eq rfl⟩, rfl, trivial⟩ ⟨⟨rfl, rfl, _, rfl, RowLe.lits_ds (xs := pairV) (enc := encPV) (fun _ => rfl) rfl⟩, trivial⟩⟩
abbrev vW : Bool × POp := (false, ⟨2, 1, List.replicate 32 0⟩)
abbrev vW1 : List (Bool × POp) := [vW]
theorem touched_h : FnIs Tryz.prog 43 [.own 0 0 (pairV.length + 1) 1 none, .int .i64 4] [(0, .ds 77 1 false encPV (pairV ++ [vW1]))] (.d (.arx 1 i6 [1, 3])) [] := by
  have h := touched_is trip 4 (by decide) (by decide)
  rw [tou_trip] at h
  refine FnIs.freeze (avs' := [.d (.arr 1 encPV (pairV ++ [vW1])), .int .i64 4]) (h0' := []) 0 (.ds 77 1 false encPV (pairV ++ [vW1])) rfl ⟨⟨_, rfl, Frz.own rfl⟩, ⟨_, rfl, .refl _⟩, trivial⟩ trivial rfl ?_
  refine FnIs.args_le (avs' := [.d (encPL trip), .int .i64 4]) ⟨⟨AVLe.d (encPLV_le rfl ?_) rfl, fun _ _ => trivial⟩, ⟨AVLe.of_eq rfl, fun _ _ => trivial⟩, trivial⟩ h
  intro q hq x hx
  simp only [pairV, List.cons_append, List.nil_append, List.mem_cons, List.not_mem_nil, or_false] at hq
  rcases hq with rfl | rfl | rfl <;> simp only [List.mem_cons, List.not_mem_nil, or_false] at hx
  · rcases hx with rfl | rfl
    · exact fun _ => rfl
    · exact fun h => by cases h
  · subst hx; exact fun _ => rfl
  · subst hx; exact fun h => by cases h
theorem op_dle (k i : Int) : DLe (.cons (.sc (.int .u8 k)) (.cons (.sc (.int .i64 i)) (.cons (.sc nil_) .nil))) (encPOp ⟨k, i, []⟩) := fun w X cs h => encV_le (x := (true, ⟨k, i, []⟩)) (fun _ => rfl) h
theorem list2_dle : DLe (.arr 1 encPV list2V) (encPL list2) := encPLV_le rfl (by
  intro q hq x hx
  simp only [List.mem_cons, List.not_mem_nil, or_false] at hq
  subst hq
  simp only [List.mem_cons, List.not_mem_nil, or_false] at hx
  rcases hx with rfl | rfl | rfl
  · exact fun _ => rfl
  · exact fun _ => rfl
  · exact fun h => by cases h)
theorem parse_px {s : List UInt8} {n : Nat} (hs : s.length ≤ 1048576) (h : parseP s [] 1 = ([], n, 5)) : FnIs Tryz.prog 47 [.d (strD s)] [] (parR [] n 5) [] := by
  have := parse_is s hs
  rwa [h] at this
theorem lives_is : FnIs Tryz.prog 35 [] [] (.bool true) [] := by
  have htp := text_is pairL (bd_chk (by decide)) (okL_of (by decide))
  have htl := text_is list2 (bd_chk (by decide)) (okL_of (by decide))
  rw [show chkP pairL = 0 by decide, text_pair, if_pos rfl] at htp
  rw [show chkP list2 = 0 by decide, text_list2, if_pos rfl] at htl
  have e1 : (!decide (tx1 = tx1)) = false := by rw [decide_eq_true rfl]; rfl
  have e2 : (!decide (tx2 = tx2)) = false := by rw [decide_eq_true rfl]; rfl
  have hb1 := bad_is ⟨1, 3, []⟩ 4
  have hb2 := bad_is ⟨1, 4, []⟩ 4
  have hb3 := bad_is ⟨2, 0, List.replicate 31 0⟩ 4
  have hb4 := bad_is ⟨3, -1, []⟩ 4
  have hb5 := bad_is ⟨0, 0, []⟩ 4
  rw [show badO ⟨1, 3, []⟩ 4 = false by decide] at hb1
  rw [show badO ⟨1, 4, []⟩ 4 = true by decide] at hb2
  rw [show badO ⟨2, 0, List.replicate 31 0⟩ 4 = true by decide] at hb3
  rw [show badO ⟨3, -1, []⟩ 4 = false by decide] at hb4
  rw [show badO ⟨0, 0, []⟩ 4 = true by decide] at hb5
  have hcount := count_is pairL (by decide) (by decide)
  rw [show cK 1 pairL.flatten = 1 by decide, show cK 2 pairL.flatten = 1 by decide, show cK 3 pairL.flatten = 1 by decide, show cO pairL.flatten = 0 by decide] at hcount
  have htou := touched_is pairL 2 (by decide) (by decide)
  rw [tou_pair] at htou
  have h13a : ([1, 3] : List Int)[((0 : Int)).toNat]? = some 1 := rfl
  have h13b : ([1, 3] : List Int)[((1 : Int)).toNat]? = some 3 := rfl
  refine fnIs_of tab_ok Tryz.func35 rfl rfl rfl ?_;refine sR ?_;refine rC ?_;refine nR ?_;refine rQ (call_r pair_is rfl rfl arg_nil (.inl rfl) (fun _ => rfl)) ?_;refine rQ (call_r htp rfl rfl (arg_e arg_nil) (.inl rfl) (fun _ => rfl)) ?_
  iterate 5 refine rC ?_
  refine nR ?_;iterate 2 refine rQ iS ?_
  refine rQ (StepIs.frozen (build_slice (s := 1) tab_ok rfl rfl rfl rfl rfl rfl rfl rfl) (Frz.lits1 (enc := encU8) (10 : Int) rfl rfl)) ?_;refine rQ iS ?_;refine rQ (StepIs.frozen (build_slice (s := 3) tab_ok rfl rfl rfl rfl rfl rfl rfl rfl) (Frz.litsN (enc := encV) [vD, vE, vF] rfl (fun x _ => encV_size x))) ?_
  refine rQ (StepIs.frozen (build_slice (s := 1) tab_ok rfl rfl rfl rfl rfl rfl rfl rfl) (Frz.lits1 (enc := encPV) [vD, vE, vF] rfl rfl)) ?_;refine rQ (call_r htl rfl rfl (arg_d rfl trivial list2_dle arg_nil) (.inl rfl) (fun _ => rfl)) ?_
  iterate 5 refine rC ?_
  refine nQ ?_;refine sR ?_;iterate 3 refine rC ?_
  refine rP ?_;refine rC ?_;refine rP ?_;refine rC ?_;refine rQ iG ?_;refine rC ?_;refine rP ?_;refine rC ?_;refine rP ?_;refine rQ (neq_s (a := tx1) (b := tx1) tab_ok rfl rfl rfl) ?_
  refine rQ iG ?_;refine rC ?_;refine rP ?_;refine rC ?_;refine rP ?_;refine rQ (neq_s (a := tx2) (b := tx2) tab_ok rfl rfl rfl) ?_;refine rQ iG ?_;refine nS ?_;refine wG ?_
  refine kS ?_;refine qR ?_;refine rQ iS ?_;refine rQ (call_r hb1 rfl rfl (arg_d rfl trivial (op_dle 1 3) (arg_e arg_nil)) (.inl rfl) (fun _ => rfl)) ?_;refine rC ?_
  refine rP ?_;refine rQ iS ?_;refine rP ?_;refine rQ (call_r hb2 rfl rfl (arg_d rfl trivial (op_dle 1 4) (arg_e arg_nil)) (.inl rfl) (fun _ => rfl)) ?_;refine rP ?_
  refine rC ?_;refine rQ iG ?_;refine rC ?_;refine rP ?_;refine rQ (StepIs.frozen (make_full (enc := encU8) (s := 1) (N := 31) tab_ok (0 : Int) rfl rfl rfl rfl rfl rfl rfl (by decide) rfl) (Frz.own rfl)) ?_
  refine rP ?_;refine rQ iS ?_;refine rP ?_;refine rQ (call_r hb3 rfl rfl (arg_e (arg_e arg_nil)) (.inl rfl) (fun _ => rfl)) ?_;refine rP ?_;refine rC ?_;refine rQ iG ?_
  refine rC ?_;refine rP ?_;refine rQ iS ?_;refine rP ?_;refine rQ (call_r hb4 rfl rfl (arg_d rfl trivial (op_dle 3 (-1)) (arg_e arg_nil)) (.inl rfl) (fun _ => rfl)) ?_
  refine rQ iG ?_;refine rC ?_;refine rP ?_;refine rQ iS ?_;refine rP ?_;refine rQ (call_r hb5 rfl rfl (arg_d rfl trivial (op_dle 0 0) (arg_e arg_nil)) (.inl rfl) (fun _ => rfl)) ?_
  refine rP ?_;refine rC ?_;refine rQ iG ?_;refine nS ?_;refine wG ?_;refine kS ?_;refine qR ?_;refine rQ (StepIs.frozen (build_slice (s := 1) tab_ok rfl rfl rfl rfl rfl rfl rfl rfl) (Frz.litsN (enc := strD) [px0, px1, px2, px3] rfl (fun _ _ => rfl))) ?_
  refine rQ iE ?_;refine rC ?_;refine nS ?_;refine wc_block ?_
  refine wc_inv (fun i : Nat => ⟨[(68, .int .i64 i), (67, .int .i64 4), (66, .d (.arr 1 strD [px0, px1, px2, px3]))], [], 72, Tryz.f35.ntmps, 64⟩) (fun i => i ≤ 4) (fun i => 4 - i) 0 [] (Nat.zero_le _)
    (.of rfl rfl rfl rfl rfl ⟨⟨_, rfl, .refl _⟩, rfl, ⟨_, rfl, .refl _⟩, rfl, ⟨_, rfl, .refl _⟩, rfl, trivial⟩ trivial) ?_
  intro i hi
  clear htp htl e1 e2 hb1 hb2 hb3 hb4 hb5
  match i, hi with
  | 0, _ =>
    have hgx : [px0, px1, px2, px3][(((0 : Nat) : Int)).toNat]? = some px0 := rfl
    have hpx := parse_px (by decide) parse_px0
    refine wc_of ?_;refine sR ?_;refine rC ?_;refine nQ ?_;refine wV ?_;refine kS ?_;refine wc_seq ?_;refine wc_block ?_;refine sR ?_;refine rC ?_;refine rQ (index_arr tab_ok rfl rfl rfl rfl rfl (by omega) hgx) ?_
    refine rQ iL ?_;iterate 2 refine rC ?_
    refine nR ?_;refine rC ?_;refine rQ (call_r hpx rfl rfl (arg_e arg_nil) (.inl rfl) (fun _ => rfl)) ?_;iterate 7 refine rC ?_
    refine nR ?_;iterate 3 refine rC ?_
    refine rP ?_;refine rC ?_;refine rP ?_;refine rQ (build_arr tab_ok rfl rfl rfl rfl rfl) ?_;refine rP ?_;refine rC ?_;refine rP ?_;refine rQ (step_C tab_ok (fun K hk => ⟨by decide, by decide, _, rfl, hk⟩)) ?_
    refine rP ?_;refine rC ?_;refine rQ iG ?_;refine rC ?_;refine rP ?_;refine rC ?_;refine rP ?_;refine rQ (len_arx tab_ok rfl rfl) ?_;refine rP ?_;refine rC ?_;refine rQ iG ?_
    refine nS ?_;refine wG ?_;refine wc_skip ?_;refine blk_n ?_;refine seq_n ?_;refine wc_region ?_;refine rQ iD ?_;refine rC ?_;refine reg_nil ?_
    exact loop_n 1 [] (by decide) (by decide) (.of rfl rfl rfl rfl rfl ⟨⟨_, rfl, .refl _⟩, rfl, ⟨_, rfl, .refl _⟩, rfl, ⟨_, rfl, .refl _⟩, rfl, trivial⟩ trivial)
  | 1, _ =>
    have hgx : [px0, px1, px2, px3][(((1 : Nat) : Int)).toNat]? = some px1 := rfl
    have hpx := parse_px (by decide) parse_px1
    refine wc_of ?_;refine sR ?_;refine rC ?_;refine nQ ?_;refine wV ?_;refine kS ?_;refine wc_seq ?_;refine wc_block ?_;refine sR ?_;refine rC ?_;refine rQ (index_arr tab_ok rfl rfl rfl rfl rfl (by omega) hgx) ?_
    refine rQ iL ?_;iterate 2 refine rC ?_
    refine nR ?_;refine rC ?_;refine rQ (call_r hpx rfl rfl (arg_e arg_nil) (.inl rfl) (fun _ => rfl)) ?_;iterate 7 refine rC ?_
    refine nR ?_;iterate 3 refine rC ?_
    refine rP ?_;refine rC ?_;refine rP ?_;refine rQ (build_arr tab_ok rfl rfl rfl rfl rfl) ?_;refine rP ?_;refine rC ?_;refine rP ?_;refine rQ (step_C tab_ok (fun K hk => ⟨by decide, by decide, _, rfl, hk⟩)) ?_
    refine rP ?_;refine rC ?_;refine rQ iG ?_;refine rC ?_;refine rP ?_;refine rC ?_;refine rP ?_;refine rQ (len_arx tab_ok rfl rfl) ?_;refine rP ?_;refine rC ?_;refine rQ iG ?_
    refine nS ?_;refine wG ?_;refine wc_skip ?_;refine blk_n ?_;refine seq_n ?_;refine wc_region ?_;refine rQ iD ?_;refine rC ?_;refine reg_nil ?_
    exact loop_n 2 [] (by decide) (by decide) (.of rfl rfl rfl rfl rfl ⟨⟨_, rfl, .refl _⟩, rfl, ⟨_, rfl, .refl _⟩, rfl, ⟨_, rfl, .refl _⟩, rfl, trivial⟩ trivial)
  | 2, _ =>
    have hgx : [px0, px1, px2, px3][(((2 : Nat) : Int)).toNat]? = some px2 := rfl
    have hpx := parse_px (by decide) parse_px2
    refine wc_of ?_;refine sR ?_;refine rC ?_;refine nQ ?_;refine wV ?_;refine kS ?_;refine wc_seq ?_;refine wc_block ?_;refine sR ?_;refine rC ?_;refine rQ (index_arr tab_ok rfl rfl rfl rfl rfl (by omega) hgx) ?_
    refine rQ iL ?_;iterate 2 refine rC ?_
    refine nR ?_;refine rC ?_;refine rQ (call_r hpx rfl rfl (arg_e arg_nil) (.inl rfl) (fun _ => rfl)) ?_;iterate 7 refine rC ?_
    refine nR ?_;iterate 3 refine rC ?_
    refine rP ?_;refine rC ?_;refine rP ?_;refine rQ (build_arr tab_ok rfl rfl rfl rfl rfl) ?_;refine rP ?_;refine rC ?_;refine rP ?_;refine rQ (step_C tab_ok (fun K hk => ⟨by decide, by decide, _, rfl, hk⟩)) ?_
    refine rP ?_;refine rC ?_;refine rQ iG ?_;refine rC ?_;refine rP ?_;refine rC ?_;refine rP ?_;refine rQ (len_arx tab_ok rfl rfl) ?_;refine rP ?_;refine rC ?_;refine rQ iG ?_
    refine nS ?_;refine wG ?_;refine wc_skip ?_;refine blk_n ?_;refine seq_n ?_;refine wc_region ?_;refine rQ iD ?_;refine rC ?_;refine reg_nil ?_
    exact loop_n 3 [] (by decide) (by decide) (.of rfl rfl rfl rfl rfl ⟨⟨_, rfl, .refl _⟩, rfl, ⟨_, rfl, .refl _⟩, rfl, ⟨_, rfl, .refl _⟩, rfl, trivial⟩ trivial)
  | 3, _ =>
    have hgx : [px0, px1, px2, px3][(((3 : Nat) : Int)).toNat]? = some px3 := rfl
    have hpx := parse_px (by decide) parse_px3
    refine wc_of ?_;refine sR ?_;refine rC ?_;refine nQ ?_;refine wV ?_;refine kS ?_;refine wc_seq ?_;refine wc_block ?_;refine sR ?_;refine rC ?_;refine rQ (index_arr tab_ok rfl rfl rfl rfl rfl (by omega) hgx) ?_
    refine rQ iL ?_;iterate 2 refine rC ?_
    refine nR ?_;refine rC ?_;refine rQ (call_r hpx rfl rfl (arg_e arg_nil) (.inl rfl) (fun _ => rfl)) ?_;iterate 7 refine rC ?_
    refine nR ?_;iterate 3 refine rC ?_
    refine rP ?_;refine rC ?_;refine rP ?_;refine rQ (build_arr tab_ok rfl rfl rfl rfl rfl) ?_;refine rP ?_;refine rC ?_;refine rP ?_;refine rQ (step_C tab_ok (fun K hk => ⟨by decide, by decide, _, rfl, hk⟩)) ?_
    refine rP ?_;refine rC ?_;refine rQ iG ?_;refine rC ?_;refine rP ?_;refine rC ?_;refine rP ?_;refine rQ (len_arx tab_ok rfl rfl) ?_;refine rP ?_;refine rC ?_;refine rQ iG ?_
    refine nS ?_;refine wG ?_;refine wc_skip ?_;refine blk_n ?_;refine seq_n ?_;refine wc_region ?_;refine rQ iD ?_;refine rC ?_;refine reg_nil ?_
    exact loop_n 4 [] (by decide) (by decide) (.of rfl rfl rfl rfl rfl ⟨⟨_, rfl, .refl _⟩, rfl, ⟨_, rfl, .refl _⟩, rfl, ⟨_, rfl, .refl _⟩, rfl, trivial⟩ trivial)
  | 4, _ =>
    refine wc_of ?_;refine sR ?_;refine rC ?_;refine nQ ?_;refine wG ?_;refine wc_exit ?_;refine seq_x ?_;refine loop_x ?_;refine blk_x ?_;refine seq_n ?_;refine sR ?_
    refine rQ (call_r pair_is rfl rfl arg_nil (.inl rfl) (fun _ => rfl)) ?_;refine rQ (call_r hcount rfl rfl (arg_e arg_nil) (.inl rfl) (fun _ => rfl)) ?_;iterate 9 refine rC ?_
    refine nQ ?_;refine wc_draw (by kernel_rfl) ?_;refine dreg_w [] [] rfl (call_new pair_own rfl rfl arg_nil (.inl rfl) rfl rfl) ?_;refine dQ [] [] (StepIs.frozen (make_full (enc := encU8) (s := 1) (N := 32) tab_ok (0 : Int) rfl rfl rfl rfl rfl rfl rfl (by decide) rfl) (Frz.own rfl)) ?_
    refine dQ [102] [] iS ?_;refine dQ [103] [] (StepIs.frozen (build_slice (s := 3) tab_ok rfl rfl rfl rfl rfl rfl rfl rfl) (Frz.lits1 (enc := encV) vW rfl rfl)) ?_
    refine dreg_w [104] [] rfl (build_slice (s := 1) tab_ok rfl rfl rfl rfl rfl rfl rfl rfl) ?_;refine dreg_w2 [101, 105] [168, 200] rfl (append_one (xs := pairV) (s := 1) (enc := encPV) tab_ok vW1 rfl rfl rfl rfl rfl rfl rfl rfl rfl (by decide) rfl) ?_
    refine dreg_w [106] [208] rfl (call_h [(0, some _)] touched_h rfl rfl rfl (arg_give rfl rfl (arg_e arg_nil)) ⟨⟨rfl, rfl, _, _, rfl, rfl, .refl _⟩, trivial⟩ rfl rfl (.inl rfl) rfl rfl) ?_
    refine dC [107] [] ?_;refine dreg_end (by kernel_rfl) ?_;refine seq_n ?_;refine sR ?_;iterate 3 refine rC ?_
    refine rP ?_;refine rC ?_;refine rP ?_;refine rC ?_;refine rQ iU ?_;refine rC ?_;refine rP ?_;refine rC ?_;refine rP ?_;refine rC ?_;refine rQ iU ?_;refine rC ?_
    refine rP ?_;refine rC ?_;refine rP ?_;refine rC ?_;refine rQ iU ?_;refine rC ?_;refine rP ?_;refine rC ?_;refine rP ?_;refine rQ (len_arx tab_ok rfl rfl) ?_;refine rP ?_
    refine rC ?_;refine rQ iU ?_;refine rC ?_;refine rP ?_;refine rC ?_;refine rP ?_;refine rQ (index_arx tab_ok rfl rfl rfl rfl rfl (by decide) h13a) ?_;refine rP ?_
    refine rQ iL ?_;refine rP ?_;refine rC ?_;refine rQ iU ?_;refine rC ?_;refine rP ?_;refine rC ?_;refine rP ?_;refine rQ (index_arx tab_ok rfl rfl rfl rfl rfl (by decide) h13b) ?_
    refine rP ?_;refine rQ iL ?_;refine rP ?_;refine rC ?_;refine rQ iU ?_;refine rC ?_;refine rP ?_;refine rQ (call_r pair_is rfl rfl arg_nil (.inl rfl) (fun _ => rfl)) ?_
    refine rP ?_;refine rQ (call_r htou rfl rfl (arg_e (arg_e arg_nil)) (.inl rfl) (fun _ => rfl)) ?_;refine rP ?_;refine rQ (len_arx tab_ok rfl rfl) ?_;refine rP ?_
    refine rC ?_;refine rQ iU ?_;refine rC ?_;refine nS ?_;refine wc_ret ?_
    exact ⟨trivial, [], lf⟩
  | (n + 5), h => exact absurd h (by omega)
end Go.Proofs.YtmojbghcngdkpaaGreatDoor

namespace Go.Proofs.YtmojbghcngdkpaaGreatDoor
open Go.Eng Go.Plain
set_option maxHeartbeats 4000000
set_option maxRecDepth 20000
set_option linter.unusedVariables false
attribute [local irreducible] WC RegS RegD SeqQ BlkQ ScoQ RegK CutK Sat SatN FnIs LoopQ StepIs OpIs
theorem xl_dle (l : List (List POp)) : DLe (.arx 1 encXP l) (encPL l) := fun _ _ cs h => Enc.arx_arr (fun _ c hc => Enc.arx_arr (fun _ _ h => h) c hc) cs h
def one (b : Bool) : Int := if b = true then 1 else 0
theorem qof_ok (x : PQ) : (qOf x).Ok := by
  have h1 := x.kind.toNat_lt
  have h2 := x.index.toNat_lt
  have h3 := x.data.toNat_lt
  unfold qOf
  split
  · exact ⟨⟨by show (0 : Int) ≤ 1; decide, by show (1 : Int) ≤ (255 : Int); decide⟩, ⟨by show -9223372036854775808 ≤ ((x.index.toNat % 22 : Nat) : Int) - 1; omega, by show ((x.index.toNat % 22 : Nat) : Int) - 1 ≤ 9223372036854775807; omega⟩⟩
  split
  · exact ⟨⟨by show (0 : Int) ≤ 2; decide, by show (2 : Int) ≤ (255 : Int); decide⟩, ⟨by show -9223372036854775808 ≤ ((x.index.toNat % 22 : Nat) : Int) - 1; omega, by show ((x.index.toNat % 22 : Nat) : Int) - 1 ≤ 9223372036854775807; omega⟩⟩
  split
  · exact ⟨⟨by show (0 : Int) ≤ ((x.data.toNat % 4 : Nat) : Int); omega, by show ((x.data.toNat % 4 : Nat) : Int) ≤ 255; omega⟩, ⟨by show -9223372036854775808 ≤ (x.index.toNat : Int) - 100; omega, by show (x.index.toNat : Int) - 100 ≤ 9223372036854775807; omega⟩⟩
  · exact ⟨⟨by decide, by decide⟩, ⟨by decide, by decide⟩⟩
theorem qof_data (x : PQ) : (qOf x).data.length ≤ 32 := by
  unfold qOf
  split
  · simp
  split
  · simp
  split
  · simp; omega
  · simp
theorem pof_len (l : List (List PQ)) : (pOf l).length ≤ 3 := by rw [pOf, List.length_map, List.length_take]; omega
theorem pof_mem {l : List (List PQ)} {p : List POp} (hp : p ∈ pOf l) : p.length ≤ 3 ∧ ∀ o ∈ p, o.Ok ∧ o.data.length ≤ 32 := by
  obtain ⟨q, _, rfl⟩ := List.mem_map.1 hp
  refine ⟨by rw [opsOf, List.length_map, List.length_take]; omega, fun o ho => ?_⟩
  obtain ⟨x, _, rfl⟩ := List.mem_map.1 ho
  exact ⟨qof_ok x, qof_data x⟩
theorem pof_chk (l : List (List PQ)) : chkP (pOf l) = 0 := by
  refine chkP_ok.2 ⟨by have := pof_len l; omega, fun p hp => ?_⟩
  obtain ⟨h1, h2⟩ := pof_mem hp
  rw [badP, Bool.or_eq_false_iff]
  refine ⟨decide_eq_false (by omega), ?_⟩
  rw [List.any_eq_false]
  intro o ho
  have := (h2 o ho).2
  simp only [decide_eq_true_eq]
  omega
theorem pof_okl (l : List (List PQ)) : OkL (pOf l) := fun p hp o ho => ((pof_mem hp).2 o ho).1
theorem text_le {l : List (List POp)} {N D M : Nat} (hN : l.length ≤ M) (h : ∀ p ∈ l, p.length ≤ N ∧ ∀ o ∈ p, o.Ok ∧ o.data.length ≤ D) : (textP l).length ≤ (7 + (51 + 2 * D) * N) * M := Nat.le_trans (text_len l h) (Nat.mul_le_mul_left _ hN)
theorem law_text (l : List (List PQ)) : FnIs Tryz.prog 11 [.d (encPP l)] [] (.bool true) [] := by
  have hL := pof_len l
  have hM : ∀ p ∈ pOf l, p.length ≤ 3 ∧ ∀ o ∈ p, o.Ok ∧ o.data.length ≤ 32 := fun p hp => pof_mem hp
  have hTl := text_le (M := 3) hL hM
  have ht := text_is (pOf l) (bd_chk (pof_chk l)) (pof_okl l)
  rw [pof_chk l, if_pos rfl] at ht
  have hp := parse_is (textP (pOf l)) (by omega)
  rw [parse_back (pof_okl l) (pof_chk l)] at hp
  have hrt := rtext_is (pOf l) (pof_okl l) (by omega) (fun p hp => ⟨by have := (hM p hp).1; omega, fun o ho => by have := ((hM p hp).2 o ho).2; omega⟩) (by omega)
  have hs := rsame_is (pOf l) (pOf l) (by omega) (fun p hp => by have := (hM p hp).1; omega)
  rw [if_pos rfl] at hs
  have he := exact_is (pOf l) (by omega)
  generalize textP (pOf l) = T at *
  have e1 : decide (T = T) = true := decide_eq_true rfl
  clear hTl
  refine fnIs_of tab_ok Tryz.func11 rfl rfl rfl ?_;refine sR ?_;refine rN ?_;refine rC ?_;refine nR ?_;refine rQ iM ?_;refine rQ (call_r (pof_is l) rfl rfl (arg_e arg_nil) (.inl rfl) (fun _ => rfl)) ?_
  refine rC ?_;refine nR ?_;refine rC ?_;refine rQ (call_r ht rfl rfl (arg_e arg_nil) (.inl rfl) (fun _ => rfl)) ?_;iterate 5 refine rC ?_
  refine nR ?_;refine rC ?_;refine rQ (call_r hp rfl rfl (arg_e arg_nil) (.inl rfl) (fun _ => rfl)) ?_;iterate 7 refine rC ?_
  refine nR ?_;iterate 3 refine rC ?_
  refine rP ?_;refine rC ?_;refine rP ?_;refine rC ?_;refine rQ iU ?_;refine rC ?_;refine rP ?_;refine rC ?_;refine rP ?_;refine rC ?_;refine rQ iU ?_;refine rC ?_
  refine rP ?_;refine rC ?_;refine rP ?_;refine rC ?_;refine rP ?_;refine rQ (call_r hrt rfl rfl (arg_e arg_nil) (.inl rfl) (fun _ => rfl)) ?_;refine rP ?_;refine rQ (eql_s (a := T) (b := T) tab_ok rfl rfl rfl) ?_
  refine rQ iU ?_;refine rC ?_;refine rO ?_;refine rC ?_;refine rO ?_;refine rC ?_;refine rO ?_;refine rQ (call_r hs rfl rfl (arg_d rfl trivial (xl_dle _) (arg_e arg_nil)) (.inl rfl) (fun _ => rfl)) ?_
  refine rO ?_;refine rC ?_;refine rO ?_;refine rQ (call_r he rfl rfl (arg_e arg_nil) (.inl rfl) (fun _ => rfl)) ?_;refine rO ?_;refine rQ (mul_int tab_ok rfl rfl (wrap_i64 (by omega) (by omega))) ?_
  refine rO ?_;refine rC ?_;refine rQ iT ?_;refine rC ?_;refine rP ?_;refine rQ (call_r lives_is rfl rfl arg_nil (.inl rfl) (fun _ => rfl)) ?_;refine rQ iU ?_;refine rC ?_
  refine nS ?_;refine wc_ret ?_
  exact ⟨trivial, [], lf⟩
theorem parse_small (s : List UInt8) : (parseP s [] 1).1.length ≤ 8 ∧ ∀ p ∈ (parseP s [] 1).1, p.length ≤ 1000000000 := by
  rcases Classical.em ((parseP s [] 1).2.2 = 0) with h | h
  · obtain ⟨_, _, hc, _⟩ := parse_out s.length s [] (parseP s [] 1).1 1 (parseP s [] 1).2.1 (Nat.le_refl _) rfl (by intro p hp; simp at hp) (by rw [← h])
    exact ⟨(chkP_ok.1 hc).1, (bd_chk hc).2⟩
  · rw [parse_err s.length s [] (parseP s [] 1).1 1 (parseP s [] 1).2.1 (parseP s [] 1).2.2 (Nat.le_refl _) rfl h]
    exact ⟨by decide, by intro p hp; simp at hp⟩
theorem small_text {l : List (List POp)} (hok : OkL l) (h : SmallL l) : (textP l).length ≤ 151356 :=
  text_le (M := 12) (N := 66) (D := 70) h.1 fun p hp => ⟨(h.2.2 p hp).1, fun o ho => ⟨hok p hp o ho, (h.2.2 p hp).2 o ho⟩⟩
theorem small_rtext {l : List (List POp)} (hok : OkL l) (h : SmallL l) : FnIs Tryz.prog 39 [.d (encPL l)] [] (.d (strD (textP l))) [] :=
  rtext_is l hok (by have := h.1; omega) (fun p hp => ⟨by have := (h.2.2 p hp).1; omega, fun o ho => by have := (h.2.2 p hp).2 o ho; omega⟩) (by have := small_text hok h; omega)
end Go.Proofs.YtmojbghcngdkpaaGreatDoor

namespace Go.Proofs.YtmojbghcngdkpaaGreatDoor
open Go.Eng Go.Plain
def toB (l : List Int) : List UInt8 := l.map fun z => z.toNat.toUInt8
end Go.Proofs.YtmojbghcngdkpaaGreatDoor

namespace Go.Proofs.YtmojbghcngdkpaaGreatDoor
open Go.ChangeShapes Go.WideShapes Go.ChangeAt Go.RowKit Go.Eng
theorem own : ownKnob Tryz.prog.godebug = none := by kernel_rfl
theorem laidOut : laidOutB Tryz.prog = true := by kernel_rfl
theorem gPow : Tryz.prog.globalNamed "internal/strconv.uint64pow10" = some 3 := by kernel_rfl
theorem gSyn : Tryz.prog.globalNamed "strconv.ErrSyntax" = some 1 := by kernel_rfl
theorem gRan : Tryz.prog.globalNamed "strconv.ErrRange" = some 2 := by kernel_rfl
theorem tPow : (Tryz.prog.globals[3]?).map (·.type) = some 253 := by kernel_rfl
theorem tSyn : (Tryz.prog.globals[1]?).map (·.type) = some 122 := by kernel_rfl
theorem tRan : (Tryz.prog.globals[2]?).map (·.type) = some 122 := by kernel_rfl
theorem block_of_var {P : Program} {w : World} {n : String} {g : Nat} {cs : Array Value} (hg : P.globalNamed n = some g) (h : w.var? P n = some cs) : ∃ t fr, w.heap[g]? = some (.cells cs t fr) := by
  unfold World.var? at h
  rw [hg] at h
  simp only [Option.bind_some] at h
  split at h
  · rename_i t fr hh
    cases h
    exact ⟨_, _, hh⟩
  · cases h
theorem globs_of {W : World} (hL : laidMetH Tryz.prog Rows.programsSameRow.laid W) (hsh : W.ShapedOpen Tryz.prog) : ∀ x ∈ globs, x.2 (W.heap[x.1]?) ∧ x.1 < W.heap.size := by
  rw [MakeChecks.laidMetH_plain _ _ _ (by kernel_rfl)] at hL
  obtain ⟨ps, ⟨_, _, _, _, _, _, _, _, _, _, ⟨_, _, _, _, _, _, _, _, _, _, ⟨g3, t3, cs3, f3, p3, q3, hg3, ht3, hv3, hd3, ⟨_, _, _, _, _, _, _, _, _, _, ⟨g2, t2, cs2, f2, p2, q2, hg2, ht2, hv2, hd2, ⟨g1, t1, cs1, f1, p1, q1, hg1, ht1, hv1, hd1, _, _⟩, _⟩, _⟩, _⟩, _⟩, _⟩, _, _⟩ := hL
  obtain rfl := Option.some.inj (gPow.symm.trans hg3)
  obtain rfl := Option.some.inj (gRan.symm.trans hg2)
  obtain rfl := Option.some.inj (gSyn.symm.trans hg1)
  obtain rfl := Option.some.inj (tPow.symm.trans ht3)
  obtain rfl := Option.some.inj (tRan.symm.trans ht2)
  obtain rfl := Option.some.inj (tSyn.symm.trans ht1)
  obtain ⟨_, u2, v2, hc2, _, _⟩ := iface_of_trod Tryz.underlying122 hd2
  obtain ⟨_, u1, v1, hc1, _, _⟩ := iface_of_trod Tryz.underlying122 hd1
  have hc3 : cs3.toList = Lib.pow10Tab.map fun z => Value.int .u64 z := Lib.cells_of_tab (zs := Lib.pow10Tab) Tryz.underlying253 Tryz.underlying212 (by kernel_rfl) (by kernel_rfl) hd3
  obtain ⟨a3, b3, hb3⟩ := block_of_var gPow hv3
  obtain ⟨a2, b2, hb2⟩ := block_of_var gRan hv2
  obtain ⟨a1, b1, hb1⟩ := block_of_var gSyn hv1
  obtain ⟨cs0, hh0, hs0, hr0⟩ := hsh.1 0 #[.int .i64 0] 3 (of_decide_eq_true (by kernel_rfl)) (by kernel_rfl)
  obtain ⟨m, hm⟩ := cell_of_shapedOpen_int (g := 0) (zero := #[.int .i64 0]) (t := 3) hsh (of_decide_eq_true (by kernel_rfl)) (by kernel_rfl) rfl (by kernel_rfl) (by kernel_rfl) Tryz.underlying3
  have he0 : ∃ fr, W.heap[0]? = some (.cells #[.int .i64 m] 3 fr) := by
    have h1 : cs0[0]? = some (.int .i64 m) := by
      have := hm
      simp only [World.cell?, hh0] at this
      exact this
    have h2 : cs0 = #[.int .i64 m] := by
      apply Array.ext'
      obtain ⟨l⟩ := cs0
      have hl : l.length = 1 := by simpa using hs0
      match l, hl, h1 with
      | [x], _, h1 => simpa using h1
    exact ⟨_, by rw [hh0, h2]⟩
  obtain ⟨fr0, he0⟩ := he0
  have e1 : cs1 = #[.iface u1 v1] := Array.ext' hc1
  have e2 : cs2 = #[.iface u2 v2] := Array.ext' hc2
  have e3 : cs3 = (Lib.pow10Tab.map fun z => Value.int .u64 z).toArray := Array.ext' (by simpa using hc3)
  intro x hx
  simp only [globs, List.mem_cons, List.not_mem_nil, or_false] at hx
  rcases hx with rfl | rfl | rfl | rfl
  · exact ⟨⟨m, 3, fr0, he0⟩, (Array.getElem?_eq_some_iff.1 he0).1⟩
  · refine ⟨⟨.iface u1 v1, a1, b1, ?_, .inr ⟨u1, v1, rfl⟩⟩, (Array.getElem?_eq_some_iff.1 hb1).1⟩
    rw [hb1, e1]
  · refine ⟨⟨.iface u2 v2, a2, b2, ?_, .inr ⟨u2, v2, rfl⟩⟩, (Array.getElem?_eq_some_iff.1 hb2).1⟩
    rw [hb2, e2]
  · refine ⟨⟨a3, b3, ?_⟩, (Array.getElem?_eq_some_iff.1 hb3).1⟩
    rw [hb3, e3]
theorem handed_of {H : Type} {enc : TypeId × Value → H} {a : Assume} {C : Checked} {os : Os} {f : FuncId} {fn : Func} {s : ChangeSpec} {conds : List PathCond} {apart fresh handsOn again : Bool} {X : World → Array Value → Prop}
    (hX : ∀ (w w' : World) (args : Array Value), w.heap = w'.heap → X w args → X w' args)
    (own : ownKnob C.prog.godebug = none) (started : os.Started) (noInit : C.prog.inits.idxOf? f = none) (hfn : C.prog.funcs[f]? = some fn)
    (witness : ∃ (w : World) (tape : Tape) (i : Input), w.os = os ∧ (w.forCall tape i).Shaped C.prog ∧ i.vars = [] ∧ Input.okWide C.prog (w.forCall tape i) .any w.heap.size f i ∧
      ((s.pre enc C.prog fn conds apart (w.forCall tape i).memory i.args ∧ X (w.forCall tape i).memory i.args) ∧ sizedMet enc C.prog fn (OpenSpec.ofChange s) apart (w.forCall tape i).memory i.args) ∧ a.holds C.prog (lone (Frame.enter C.prog f i.args .normal) [] (w.forCall tape i)))
    (contract : ∀ (W : World) (base : Nat) (args : Array Value) (ds gs : List (DataW H)) (before : List MemPlace),
      (∀ (j : Nat) t v, fn.params[j]? = some t → args[j]? = some v → Value.okWide C.prog W .any base t v) →
      DataW.Whole enc C.prog fn.params.toList s.vars apart W args.toList ds gs before →
      X W args → W.ShapedOpen C.prog →
      Calls C.prog f args W fun e W' => ∃ v, e = .returned v ∧ s.post enc C.prog fn apart fresh handsOn again W args v W') :
    ReturnsInHanded a C os f .any (fun w args => (s.pre enc C.prog fn conds apart w args ∧ X w args) ∧ sizedMet enc C.prog fn (OpenSpec.ofChange s) apart w args) (s.post enc C.prog fn apart fresh handsOn again) := by
  refine returnsInHanded_of_calls own started noInit witness ?_
  intro w tape i _ hsh _ hok hpre _
  obtain ⟨_, _, _, fn', hfn', _, _, _, _, hval⟩ := hok
  have e : fn' = fn := Option.some.inj (hfn'.symm.trans hfn)
  subst e
  obtain ⟨⟨⟨ds, gs, before, hw, hc⟩, hx⟩, hz⟩ := hpre
  have hw' := DataW.Whole.of_heap (w' := w.forCall tape i) (by rfl) hw
  refine (contract (w.forCall tape i) w.heap.size i.args ds gs before hval hw' (hX _ _ _ (by rfl) hx) hsh).mono fun e W' ⟨v, he, hp⟩ => ?_
  subst he
  exact ChangeSpec.post_blind hp
end Go.Proofs.YtmojbghcngdkpaaGreatDoor

namespace Go.Proofs.YtmojbghcngdkpaaGreatDoor
open Go
theorem and2 {a b : Bool} (h : a = true) (k : b = true) : (a && b) = true := by rw [h, k]; rfl
theorem pf_maps : mapsRowed Tryz.prog = true := by kernel_rfl
theorem pf_keys : (Rows.programsSameRow.plainKeys == Tryz.prog.plainKeys) = true := by kernel_rfl
theorem pf_heard : Tryz.prog.stopsHeard = true := by kernel_rfl
theorem pf_enter : Tryz.prog.mayEnter = true := by kernel_rfl
theorem pf_lifts : (Rows.programsSameRow.lifted == Tryz.prog.liftsFinal) = true := by kernel_rfl
theorem pf_make : (Tryz.prog.make == some Rows.programsSameRow.make) = true := by kernel_rfl
end Go.Proofs.YtmojbghcngdkpaaGreatDoor

namespace Go.Proofs.YtmojbghcngdkpaaGreatDoor
open Go.Eng Go.Plain
set_option maxHeartbeats 4000000
set_option maxRecDepth 20000
set_option linter.unusedVariables false
attribute [local irreducible] WC RegS RegD SeqQ BlkQ ScoQ RegK CutK Sat SatN FnIs LoopQ StepIs OpIs
theorem eq_le {P : Program} {m t : Nat} {x y x' y' : D} {b : Bool} (h : EqOk P m t x' y' b) (hx : AVLe (.d x) (.d x')) (hy : AVLe (.d y) (.d y')) : EqOk P m t x y b := fun σ w X u v dd hu hv => h σ w X u v dd (hx σ w X u hu) (hy σ w X v hv)
theorem k4_vec (l : List POp) : AVLe (.d (k4 l)) (.d (.vec 4 1 i6 [(cK 1 l : Int), (cK 2 l : Int), (cK 3 l : Int), (cO l : Int)])) :=
  AVLe.d (DLe.chain_vec (fun _ _ _ _ h => by rw [h.1]; rfl) [(cK 1 l : Int), (cK 2 l : Int), (cK 3 l : Int), (cO l : Int)] (k4 l) rfl) rfl
theorem k4_eq (l : List POp) : EqOk Tryz.prog 2 84 (k4 l) (k4 l) true := by
  have h := eq_vec (m := 1) (s := 1) (enc := i6) (xs := [(cK 1 l : Int), (cK 2 l : Int), (cK 3 l : Int), (cO l : Int)]) (ys := [(cK 1 l : Int), (cK 2 l : Int), (cK 3 l : Int), (cO l : Int)]) tab_ok (t := 84) (e := 3) Tryz.underlying84 rfl (fun _ => rfl) rfl (fun a b => eq_int Tryz.underlying3)
  rw [decide_eq_true rfl] at h
  exact eq_le h (k4_vec l) (k4_vec l)
theorem bad_mono {o : POp} {b : Int} (h : badO o b = false) : badO o (b + 1) = false := by
  unfold badO outO at h ⊢
  split at h
  · rename_i k
    rw [if_pos k]
    simp only [Bool.or_eq_false_iff, decide_eq_false_iff_not] at h ⊢
    exact ⟨h.1, by omega⟩
  · rename_i k
    rw [if_neg k]
    split at h
    · rename_i k2
      rw [if_pos k2]
      simp only [Bool.or_eq_false_iff, decide_eq_false_iff_not] at h ⊢
      exact ⟨⟨h.1.1, by omega⟩, h.2⟩
    · rename_i k2
      rw [if_neg k2]
      exact h
theorem law_check (l : List (List POp)) (hok : OkL l) (b : Int) (hb0 : -9223372036854775808 ≤ b) (hb1 : b ≤ 9223372036854775807) : FnIs Tryz.prog 10 [.d (encPL l), .int .i64 b] [] (.bool true) [] := by
  have hsm := small_is l
  refine fnIs_of tab_ok Tryz.func10 rfl rfl rfl ?_
  cases qa : smallB l with
  | false =>
    rw [qa] at hsm
    refine sR ?_;refine rC ?_;refine nQ ?_;refine sR ?_;refine rC ?_;refine rQ (call_r hsm rfl rfl (arg_e arg_nil) (.inl rfl) (fun _ => rfl)) ?_;refine rC ?_;refine nS ?_
    refine wV ?_;refine sR ?_;refine rQ (call_r lives_is rfl rfl arg_nil (.inl rfl) (fun _ => rfl)) ?_;refine rC ?_;refine nS ?_;refine wc_ret ?_;refine seq_r ?_
    exact ⟨trivial, [], lf⟩
  | true =>
    rw [qa] at hsm
    have hS := (small_iff l).1 qa
    obtain ⟨s1, s2, s3⟩ := hS
    have hrc := rcheck_is l
    have ht := text_is l ⟨by omega, fun p hp => by have := (s3 p hp).1; omega⟩ hok
    have hck := check_is l (by omega) (fun p hp => by have := (s3 p hp).1; omega)
    have hrt := small_rtext hok ⟨s1, s2, s3⟩
    have hcnt := count_is l (by omega) (by omega)
    have htou := touched_is l b (by omega) (by omega)
    have hrtou := rtouched_is l b (by omega) (by omega)
    have hkin := kinds_is l hok (by omega) (by omega)
    have htl := touL_len b l.flatten
    generalize textP l = T at *
    generalize hU : touL b l.flatten = U at *
    have eT : (!decide (T = T)) = false := by rw [decide_eq_true rfl]; rfl
    have eU : (!decide ((U.length : Int) = (U.length : Int))) = false := by rw [decide_eq_true rfl]; rfl
    rcases chkP_cases l with hc | hc
    · rw [hc] at hrc hck ht
      rw [if_pos rfl] at ht
      refine sR ?_;refine rC ?_;refine nQ ?_;refine sR ?_;refine rC ?_;refine rQ (call_r hsm rfl rfl (arg_e arg_nil) (.inl rfl) (fun _ => rfl)) ?_;refine rC ?_;refine nS ?_
      refine wG ?_;refine kS ?_;refine sR ?_;refine rC ?_;refine rQ (call_r hrc rfl rfl (arg_e arg_nil) (.inl rfl) (fun _ => rfl)) ?_;refine rC ?_;refine nR ?_;refine rC ?_
      refine rQ (call_r ht rfl rfl (arg_e arg_nil) (.inl rfl) (fun _ => rfl)) ?_;iterate 5 refine rC ?_
      refine nQ ?_;refine sR ?_;refine rC ?_;refine rQ (call_r hck rfl rfl (arg_e arg_nil) (.inl rfl) (fun _ => rfl)) ?_;iterate 3 refine rC ?_
      refine rP ?_;refine rC ?_;refine rP ?_;refine rC ?_;refine rP ?_;refine rC ?_;refine rQ iG ?_;refine rC ?_;refine rP ?_;refine rC ?_;refine rP ?_;refine rC ?_;refine rP ?_
      refine rC ?_;iterate 2 refine rT ?_
      refine rP ?_;iterate 2 refine rQ iG ?_
      refine rC ?_;refine rP ?_;refine rC ?_;refine rP ?_;refine rC ?_;refine rP ?_;refine rC ?_;refine rP ?_;refine rC ?_;refine rP ?_;refine rC ?_;refine rP ?_;refine rQ (call_r hrt rfl rfl (arg_e arg_nil) (.inl rfl) (fun _ => rfl)) ?_
      refine rP ?_;refine rQ (neq_s (a := T) (b := T) tab_ok rfl rfl rfl) ?_;refine rP ?_;refine rQ iU ?_;refine rQ iG ?_;refine nS ?_;refine wF ?_;refine kS ?_;refine qR ?_
      refine rC ?_;refine nS ?_;refine wc_block ?_
      refine wc_inv (fun i : Nat => ⟨[(8, .int .i64 i), (1, .int .i64 b), (0, .d (encPL l))], [], 72, Tryz.f10.ntmps, 64⟩) (fun i => i ≤ l.length) (fun i => l.length - i) 0 [] (Nat.zero_le _)
        (.of rfl rfl rfl rfl rfl ⟨⟨_, rfl, .refl _⟩, rfl, ⟨_, rfl, .refl _⟩, rfl, ⟨_, rfl, .refl _⟩, rfl, trivial⟩ trivial) ?_
      intro i hi
      by_cases hlt : i < l.length
      · have h3 : decide ((i : Int) < (l.length : Int)) = true := decide_eq_true (by omega)
        obtain ⟨p, hp⟩ : ∃ p, l[i]? = some p := ⟨_, List.getElem?_eq_getElem hlt⟩
        have hp' : l[((i : Int)).toNat]? = some p := by rw [Int.toNat_natCast]; exact hp
        have hpl : p.length ≤ 66 := (s3 p (List.mem_of_getElem? hp)).1
        refine wc_of ?_;refine qR ?_;iterate 2 refine rC ?_
        refine rQ iE ?_;refine rC ?_;refine nS ?_;refine wT ?_;refine kS ?_;refine wc_seq ?_;refine wc_block ?_;refine sR ?_;refine rC ?_;refine nS ?_;refine wc_block ?_
        refine wc_inv (fun j : Nat => ⟨[(9, .int .i64 j), (8, .int .i64 i), (1, .int .i64 b), (0, .d (encPL l))], [], 72, Tryz.f10.ntmps, 64⟩) (fun j => j ≤ p.length) (fun j => p.length - j) 0 [] (Nat.zero_le _)
          (.of rfl rfl rfl rfl rfl ⟨⟨_, rfl, .refl _⟩, rfl, ⟨_, rfl, .refl _⟩, rfl, ⟨_, rfl, .refl _⟩, rfl, ⟨_, rfl, .refl _⟩, rfl, trivial⟩ trivial) ?_
        intro j hj
        by_cases hjl : j < p.length
        · have h4 : decide ((j : Int) < (p.length : Int)) = true := decide_eq_true (by omega)
          obtain ⟨o, ho⟩ : ∃ o, p[j]? = some o := ⟨_, List.getElem?_eq_getElem hjl⟩
          have ho' : p[((j : Int)).toNat]? = some o := by rw [Int.toNat_natCast]; exact ho
          have hbad := bad_is o b
          have hrb := rbad_is o b
          cases hq : badO o b with
          | true =>
            rw [hq] at hbad hrb
            by_cases h62 : b < 4611686018427387904
            · have d62 : decide (b < 4611686018427387904) = true := decide_eq_true h62
              refine wc_of ?_;refine qR ?_;iterate 3 refine rC ?_
              refine rQ iA ?_;refine rQ iL ?_;refine rQ iE ?_;refine rC ?_;refine nS ?_;refine wT ?_;refine kS ?_;refine wc_seq ?_;refine wc_block ?_;iterate 2 refine wc_seq ?_
              refine wc_draw (by kernel_rfl) ?_;refine dC [0] [] ?_;refine dC [8] [] ?_;refine dQ [70, 71] [] iA ?_;refine dQ [72] [] iL ?_;refine dC [9] [] ?_;refine dQ [73, 74] [] iA ?_
              refine dQ [75] [] iL ?_;refine dC [1] [] ?_;refine dQ [76, 77] [] (call_r hbad rfl rfl (arg_e (arg_e arg_nil)) (.inl rfl) (fun _ => rfl)) ?_;refine dC [0] [] ?_
              refine dC [8] [] ?_;refine dQ [79, 80] [] iA ?_;refine dQ [81] [] iL ?_;refine dC [9] [] ?_;refine dQ [82, 83] [] iA ?_;refine dQ [84] [] iL ?_;refine dC [1] [] ?_
              refine dQ [85, 86] [] (call_r hrb rfl rfl (arg_e (arg_e arg_nil)) (.inl rfl) (fun _ => rfl)) ?_;refine dC [87] [] ?_;refine dC [78, 88] [] ?_;refine dreg_end (by kernel_rfl) ?_
              refine seq_n ?_;refine wG ?_;refine kS ?_;refine sR ?_;iterate 3 refine rC ?_
              refine rO ?_;refine rC ?_;refine rO ?_;refine rC ?_;refine rO ?_;refine rQ iA ?_;refine rO ?_;refine rQ iL ?_;refine rO ?_;refine rC ?_;refine rO ?_;refine rQ iA ?_
              refine rO ?_;refine rQ iL ?_;refine rO ?_;refine rC ?_;refine rO ?_;refine rQ (call_r hbad rfl rfl (arg_e (arg_e arg_nil)) (.inl rfl) (fun _ => rfl)) ?_;refine rO ?_
              refine rC ?_;refine rQ iT ?_;refine rC ?_;iterate 10 refine rT ?_
              refine rQ iG ?_;refine nS ?_;refine wG ?_;refine wc_skip ?_;refine blk_n ?_;refine seq_n ?_;refine wc_region ?_;refine rC ?_;refine rQ iD ?_;refine rC ?_;refine reg_nil ?_
              exact loop_n (j + 1) [] hjl (by omega) (.of rfl rfl rfl rfl rfl ⟨⟨_, rfl, .refl _⟩, rfl, ⟨_, rfl, .refl _⟩, rfl, ⟨_, rfl, .refl _⟩, rfl, ⟨_, rfl, .refl _⟩, rfl, trivial⟩ trivial)
            · have d62 : decide (b < 4611686018427387904) = false := decide_eq_false h62
              refine wc_of ?_;refine qR ?_;iterate 3 refine rC ?_
              refine rQ iA ?_;refine rQ iL ?_;refine rQ iE ?_;refine rC ?_;refine nS ?_;refine wT ?_;refine kS ?_;refine wc_seq ?_;refine wc_block ?_;iterate 2 refine wc_seq ?_
              refine wc_draw (by kernel_rfl) ?_;refine dC [0] [] ?_;refine dC [8] [] ?_;refine dQ [70, 71] [] iA ?_;refine dQ [72] [] iL ?_;refine dC [9] [] ?_;refine dQ [73, 74] [] iA ?_
              refine dQ [75] [] iL ?_;refine dC [1] [] ?_;refine dQ [76, 77] [] (call_r hbad rfl rfl (arg_e (arg_e arg_nil)) (.inl rfl) (fun _ => rfl)) ?_;refine dC [0] [] ?_
              refine dC [8] [] ?_;refine dQ [79, 80] [] iA ?_;refine dQ [81] [] iL ?_;refine dC [9] [] ?_;refine dQ [82, 83] [] iA ?_;refine dQ [84] [] iL ?_;refine dC [1] [] ?_
              refine dQ [85, 86] [] (call_r hrb rfl rfl (arg_e (arg_e arg_nil)) (.inl rfl) (fun _ => rfl)) ?_;refine dC [87] [] ?_;refine dC [78, 88] [] ?_;refine dreg_end (by kernel_rfl) ?_
              refine seq_n ?_;refine wG ?_;refine kS ?_;refine sR ?_;iterate 3 refine rC ?_
              iterate 10 refine rS ?_
              refine rQ iF ?_;refine rC ?_;iterate 10 refine rT ?_
              refine rQ iG ?_;refine nS ?_;refine wG ?_;refine wc_skip ?_;refine blk_n ?_;refine seq_n ?_;refine wc_region ?_;refine rC ?_;refine rQ iD ?_;refine rC ?_;refine reg_nil ?_
              exact loop_n (j + 1) [] hjl (by omega) (.of rfl rfl rfl rfl rfl ⟨⟨_, rfl, .refl _⟩, rfl, ⟨_, rfl, .refl _⟩, rfl, ⟨_, rfl, .refl _⟩, rfl, ⟨_, rfl, .refl _⟩, rfl, trivial⟩ trivial)
          | false =>
            rw [hq] at hbad hrb
            by_cases h62 : b < 4611686018427387904
            · have d62 : decide (b < 4611686018427387904) = true := decide_eq_true h62
              have hw113 : IntKind.i64.wrap (b + 1) = b + 1 := wrap_i64 (by omega) (by omega)
              have hbad1 := bad_is o (b + 1)
              rw [bad_mono hq] at hbad1
              refine wc_of ?_;refine qR ?_;iterate 3 refine rC ?_
              refine rQ iA ?_;refine rQ iL ?_;refine rQ iE ?_;refine rC ?_;refine nS ?_;refine wT ?_;refine kS ?_;refine wc_seq ?_;refine wc_block ?_;iterate 2 refine wc_seq ?_
              refine wc_draw (by kernel_rfl) ?_;refine dC [0] [] ?_;refine dC [8] [] ?_;refine dQ [70, 71] [] iA ?_;refine dQ [72] [] iL ?_;refine dC [9] [] ?_;refine dQ [73, 74] [] iA ?_
              refine dQ [75] [] iL ?_;refine dC [1] [] ?_;refine dQ [76, 77] [] (call_r hbad rfl rfl (arg_e (arg_e arg_nil)) (.inl rfl) (fun _ => rfl)) ?_;refine dC [0] [] ?_
              refine dC [8] [] ?_;refine dQ [79, 80] [] iA ?_;refine dQ [81] [] iL ?_;refine dC [9] [] ?_;refine dQ [82, 83] [] iA ?_;refine dQ [84] [] iL ?_;refine dC [1] [] ?_
              refine dQ [85, 86] [] (call_r hrb rfl rfl (arg_e (arg_e arg_nil)) (.inl rfl) (fun _ => rfl)) ?_;refine dC [87] [] ?_;refine dC [78, 88] [] ?_;refine dreg_end (by kernel_rfl) ?_
              refine seq_n ?_;refine wG ?_;refine kS ?_;refine sR ?_;iterate 3 refine rC ?_
              refine rO ?_;refine rC ?_;refine rO ?_;refine rC ?_;refine rO ?_;refine rQ iA ?_;refine rO ?_;refine rQ iL ?_;refine rO ?_;refine rC ?_;refine rO ?_;refine rQ iA ?_
              refine rO ?_;refine rQ iL ?_;refine rO ?_;refine rC ?_;refine rO ?_;refine rQ (call_r hbad rfl rfl (arg_e (arg_e arg_nil)) (.inl rfl) (fun _ => rfl)) ?_;refine rO ?_
              refine rC ?_;refine rQ iT ?_;refine rC ?_;refine rP ?_;refine rC ?_;refine rP ?_;refine rC ?_;refine rP ?_;refine rQ iA ?_;refine rP ?_;refine rQ iL ?_;refine rP ?_
              refine rC ?_;refine rP ?_;refine rQ iA ?_;refine rP ?_;refine rQ iL ?_;refine rP ?_;refine rC ?_;refine rP ?_;refine rQ (add_int (m := b + 1) tab_ok rfl rfl hw113) ?_
              refine rP ?_;refine rQ (call_r hbad1 rfl rfl (arg_e (arg_e arg_nil)) (.inl rfl) (fun _ => rfl)) ?_;refine rQ iU ?_;refine nS ?_;refine wG ?_;refine wc_skip ?_;refine blk_n ?_
              refine seq_n ?_;refine wc_region ?_;refine rC ?_;refine rQ iD ?_;refine rC ?_;refine reg_nil ?_
              exact loop_n (j + 1) [] hjl (by omega) (.of rfl rfl rfl rfl rfl ⟨⟨_, rfl, .refl _⟩, rfl, ⟨_, rfl, .refl _⟩, rfl, ⟨_, rfl, .refl _⟩, rfl, ⟨_, rfl, .refl _⟩, rfl, trivial⟩ trivial)
            · have d62 : decide (b < 4611686018427387904) = false := decide_eq_false h62
              refine wc_of ?_;refine qR ?_;iterate 3 refine rC ?_
              refine rQ iA ?_;refine rQ iL ?_;refine rQ iE ?_;refine rC ?_;refine nS ?_;refine wT ?_;refine kS ?_;refine wc_seq ?_;refine wc_block ?_;iterate 2 refine wc_seq ?_
              refine wc_draw (by kernel_rfl) ?_;refine dC [0] [] ?_;refine dC [8] [] ?_;refine dQ [70, 71] [] iA ?_;refine dQ [72] [] iL ?_;refine dC [9] [] ?_;refine dQ [73, 74] [] iA ?_
              refine dQ [75] [] iL ?_;refine dC [1] [] ?_;refine dQ [76, 77] [] (call_r hbad rfl rfl (arg_e (arg_e arg_nil)) (.inl rfl) (fun _ => rfl)) ?_;refine dC [0] [] ?_
              refine dC [8] [] ?_;refine dQ [79, 80] [] iA ?_;refine dQ [81] [] iL ?_;refine dC [9] [] ?_;refine dQ [82, 83] [] iA ?_;refine dQ [84] [] iL ?_;refine dC [1] [] ?_
              refine dQ [85, 86] [] (call_r hrb rfl rfl (arg_e (arg_e arg_nil)) (.inl rfl) (fun _ => rfl)) ?_;refine dC [87] [] ?_;refine dC [78, 88] [] ?_;refine dreg_end (by kernel_rfl) ?_
              refine seq_n ?_;refine wG ?_;refine kS ?_;refine sR ?_;iterate 3 refine rC ?_
              iterate 10 refine rS ?_
              refine rQ iF ?_;refine rC ?_;iterate 10 refine rT ?_
              refine rQ iG ?_;refine nS ?_;refine wG ?_;refine wc_skip ?_;refine blk_n ?_;refine seq_n ?_;refine wc_region ?_;refine rC ?_;refine rQ iD ?_;refine rC ?_;refine reg_nil ?_
              exact loop_n (j + 1) [] hjl (by omega) (.of rfl rfl rfl rfl rfl ⟨⟨_, rfl, .refl _⟩, rfl, ⟨_, rfl, .refl _⟩, rfl, ⟨_, rfl, .refl _⟩, rfl, ⟨_, rfl, .refl _⟩, rfl, trivial⟩ trivial)
        · have he : j = p.length := by omega
          have h4 : decide ((j : Int) < (p.length : Int)) = false := decide_eq_false (by omega)
          refine wc_of ?_;refine qR ?_;iterate 3 refine rC ?_
          refine rQ iA ?_;refine rQ iL ?_;refine rQ iE ?_;refine rC ?_;refine nS ?_;refine wF ?_;refine wc_exit ?_;refine seq_x ?_;refine loop_x ?_;refine blk_x ?_;refine blk_n ?_
          refine seq_n ?_;refine wc_region ?_;refine rC ?_;refine rQ iD ?_;refine rC ?_;refine reg_nil ?_
          exact loop_n (i + 1) [] hlt (by omega) (.of rfl rfl rfl rfl rfl ⟨⟨_, rfl, .refl _⟩, rfl, ⟨_, rfl, .refl _⟩, rfl, ⟨_, rfl, .refl _⟩, rfl, trivial⟩ trivial)
      · have h3 : decide ((i : Int) < (l.length : Int)) = false := decide_eq_false (by omega)
        refine wc_of ?_;refine qR ?_;iterate 2 refine rC ?_
        refine rQ iE ?_;refine rC ?_;refine nS ?_;refine wF ?_;refine wc_exit ?_;refine seq_x ?_;refine loop_x ?_;refine blk_x ?_;refine seq_n ?_;refine sR ?_;refine rC ?_
        refine rQ (call_r hcnt rfl rfl (arg_e arg_nil) (.inl rfl) (fun _ => rfl)) ?_;iterate 9 refine rC ?_
        refine nR ?_;iterate 2 refine rC ?_
        refine rQ (call_r htou rfl rfl (arg_e (arg_e arg_nil)) (.inl rfl) (fun _ => rfl)) ?_;iterate 2 refine rC ?_
        refine rQ (call_r hrtou rfl rfl (arg_e (arg_e arg_nil)) (.inl rfl) (fun _ => rfl)) ?_;iterate 2 refine rC ?_
        refine nQ ?_;refine sR ?_;refine rC ?_;refine rQ (call_r hkin rfl rfl (arg_e arg_nil) (.inl rfl) (fun _ => rfl)) ?_;iterate 4 refine rC ?_
        refine rQ (build_arr tab_ok rfl rfl rfl rfl rfl) ?_;refine rQ (neq_data rfl rfl rfl rfl (by kernel_rfl) (by decide) (k4_eq l.flatten)) ?_;refine rC ?_;refine rP ?_
        refine rC ?_;refine rP ?_;refine rQ (len_arx tab_ok rfl rfl) ?_;refine rP ?_;refine rC ?_;refine rP ?_;refine rQ iE ?_;refine rP ?_;refine rC ?_;refine rQ iG ?_
        refine rC ?_;refine rO ?_;refine rC ?_;refine rO ?_;refine rQ (cap_arx tab_ok rfl rfl) ?_;refine rO ?_;refine rC ?_;refine rO ?_;refine rQ (len_arx tab_ok rfl rfl) ?_
        refine rO ?_;refine rC ?_;refine rQ iF ?_;refine nS ?_;refine wF ?_;refine kS ?_;refine qR ?_;refine rC ?_;refine nS ?_;refine wc_block ?_
        refine wc_inv (fun k : Nat => ⟨[(16, .int .i64 k), (15, .d (.arr 1 i6 U)), (14, .d (.arx 1 i6 U))], [], 72, Tryz.f10.ntmps, 64⟩) (fun k => k ≤ U.length) (fun k => U.length - k) 0 [] (Nat.zero_le _)
          (.of rfl rfl rfl rfl rfl ⟨⟨_, rfl, .refl _⟩, rfl, ⟨_, rfl, .refl _⟩, rfl, ⟨_, rfl, .refl _⟩, rfl, trivial⟩ trivial) ?_
        intro k hk
        by_cases hkl : k < U.length
        · have h5 : decide ((k : Int) < (U.length : Int)) = true := decide_eq_true (by omega)
          obtain ⟨z, hz⟩ : ∃ z, U[k]? = some z := ⟨_, List.getElem?_eq_getElem hkl⟩
          have hz' : U[((k : Int)).toNat]? = some z := by rw [Int.toNat_natCast]; exact hz
          have eZ : (!decide (z = z)) = false := by rw [decide_eq_true rfl]; rfl
          refine wc_of ?_;refine qR ?_;iterate 2 refine rC ?_
          refine rQ (len_arx tab_ok rfl rfl) ?_;refine rC ?_;refine nS ?_;refine wT ?_;refine kS ?_;refine wc_seq ?_;refine wc_block ?_;refine wc_seq ?_;refine wc_draw (by kernel_rfl) ?_
          refine dC [14] [] ?_;refine dC [16] [] ?_;refine dQ [157, 158] [] (index_arx tab_ok rfl rfl rfl rfl rfl (by omega) (by assumption)) ?_;refine dQ [159] [] iL ?_;refine dC [15] [] ?_
          refine dC [16] [] ?_;refine dQ [161, 162] [] iA ?_;refine dQ [163] [] iL ?_;refine dC [160, 164] [] ?_;refine dreg_end (by kernel_rfl) ?_;refine seq_n ?_;refine wF ?_
          refine wc_skip ?_;refine blk_n ?_;refine seq_n ?_;refine wc_region ?_;refine rC ?_;refine rQ iD ?_;refine rC ?_;refine reg_nil ?_
          exact loop_n (k + 1) [] hkl (by omega) (.of rfl rfl rfl rfl rfl ⟨⟨_, rfl, .refl _⟩, rfl, ⟨_, rfl, .refl _⟩, rfl, ⟨_, rfl, .refl _⟩, rfl, trivial⟩ trivial)
        · have h5 : decide ((k : Int) < (U.length : Int)) = false := decide_eq_false (by omega)
          refine wc_of ?_;refine qR ?_;iterate 2 refine rC ?_
          refine rQ (len_arx tab_ok rfl rfl) ?_;refine rC ?_;refine nS ?_;refine wF ?_;refine wc_exit ?_;refine seq_x ?_;refine loop_x ?_;refine blk_x ?_;refine seq_n ?_;refine sR ?_
          refine rQ (call_r lives_is rfl rfl arg_nil (.inl rfl) (fun _ => rfl)) ?_;refine rC ?_;refine nS ?_;refine wc_ret ?_
          exact ⟨trivial, [], lf⟩
    · rw [hc] at hrc hck ht
      rw [if_neg (by decide)] at ht
      refine sR ?_;refine rC ?_;refine nQ ?_;refine sR ?_;refine rC ?_;refine rQ (call_r hsm rfl rfl (arg_e arg_nil) (.inl rfl) (fun _ => rfl)) ?_;refine rC ?_;refine nS ?_
      refine wG ?_;refine kS ?_;refine sR ?_;refine rC ?_;refine rQ (call_r hrc rfl rfl (arg_e arg_nil) (.inl rfl) (fun _ => rfl)) ?_;refine rC ?_;refine nR ?_;refine rC ?_
      refine rQ (call_r ht rfl rfl (arg_e arg_nil) (.inl rfl) (fun _ => rfl)) ?_;iterate 5 refine rC ?_
      refine nQ ?_;refine sR ?_;refine rC ?_;refine rQ (call_r hck rfl rfl (arg_e arg_nil) (.inl rfl) (fun _ => rfl)) ?_;iterate 3 refine rC ?_
      refine rP ?_;refine rC ?_;refine rP ?_;refine rC ?_;refine rP ?_;refine rC ?_;refine rQ iG ?_;refine rC ?_;refine rP ?_;refine rC ?_;refine rP ?_;refine rC ?_;refine rP ?_
      refine rC ?_;refine rP ?_;refine rC ?_;refine rP ?_;refine rQ (neq_s (a := []) (b := []) tab_ok rfl rfl rfl) ?_;refine rP ?_;refine rQ iU ?_;refine rQ iG ?_;refine rC ?_
      refine rP ?_;refine rC ?_;refine rP ?_;refine rC ?_;refine rP ?_;refine rC ?_;iterate 4 refine rT ?_
      refine rP ?_;iterate 2 refine rQ iG ?_
      refine nS ?_;refine wG ?_;refine kS ?_;refine qR ?_;refine rC ?_;refine nS ?_;refine wc_block ?_
      refine wc_inv (fun i : Nat => ⟨[(8, .int .i64 i), (1, .int .i64 b), (0, .d (encPL l))], [], 72, Tryz.f10.ntmps, 64⟩) (fun i => i ≤ l.length) (fun i => l.length - i) 0 [] (Nat.zero_le _)
        (.of rfl rfl rfl rfl rfl ⟨⟨_, rfl, .refl _⟩, rfl, ⟨_, rfl, .refl _⟩, rfl, ⟨_, rfl, .refl _⟩, rfl, trivial⟩ trivial) ?_
      intro i hi
      by_cases hlt : i < l.length
      · have h3 : decide ((i : Int) < (l.length : Int)) = true := decide_eq_true (by omega)
        obtain ⟨p, hp⟩ : ∃ p, l[i]? = some p := ⟨_, List.getElem?_eq_getElem hlt⟩
        have hp' : l[((i : Int)).toNat]? = some p := by rw [Int.toNat_natCast]; exact hp
        have hpl : p.length ≤ 66 := (s3 p (List.mem_of_getElem? hp)).1
        refine wc_of ?_;refine qR ?_;iterate 2 refine rC ?_
        refine rQ iE ?_;refine rC ?_;refine nS ?_;refine wT ?_;refine kS ?_;refine wc_seq ?_;refine wc_block ?_;refine sR ?_;refine rC ?_;refine nS ?_;refine wc_block ?_
        refine wc_inv (fun j : Nat => ⟨[(9, .int .i64 j), (8, .int .i64 i), (1, .int .i64 b), (0, .d (encPL l))], [], 72, Tryz.f10.ntmps, 64⟩) (fun j => j ≤ p.length) (fun j => p.length - j) 0 [] (Nat.zero_le _)
          (.of rfl rfl rfl rfl rfl ⟨⟨_, rfl, .refl _⟩, rfl, ⟨_, rfl, .refl _⟩, rfl, ⟨_, rfl, .refl _⟩, rfl, ⟨_, rfl, .refl _⟩, rfl, trivial⟩ trivial) ?_
        intro j hj
        by_cases hjl : j < p.length
        · have h4 : decide ((j : Int) < (p.length : Int)) = true := decide_eq_true (by omega)
          obtain ⟨o, ho⟩ : ∃ o, p[j]? = some o := ⟨_, List.getElem?_eq_getElem hjl⟩
          have ho' : p[((j : Int)).toNat]? = some o := by rw [Int.toNat_natCast]; exact ho
          have hbad := bad_is o b
          have hrb := rbad_is o b
          cases hq : badO o b with
          | true =>
            rw [hq] at hbad hrb
            by_cases h62 : b < 4611686018427387904
            · have d62 : decide (b < 4611686018427387904) = true := decide_eq_true h62
              refine wc_of ?_;refine qR ?_;iterate 3 refine rC ?_
              refine rQ iA ?_;refine rQ iL ?_;refine rQ iE ?_;refine rC ?_;refine nS ?_;refine wT ?_;refine kS ?_;refine wc_seq ?_;refine wc_block ?_;iterate 2 refine wc_seq ?_
              refine wc_draw (by kernel_rfl) ?_;refine dC [0] [] ?_;refine dC [8] [] ?_;refine dQ [70, 71] [] iA ?_;refine dQ [72] [] iL ?_;refine dC [9] [] ?_;refine dQ [73, 74] [] iA ?_
              refine dQ [75] [] iL ?_;refine dC [1] [] ?_;refine dQ [76, 77] [] (call_r hbad rfl rfl (arg_e (arg_e arg_nil)) (.inl rfl) (fun _ => rfl)) ?_;refine dC [0] [] ?_
              refine dC [8] [] ?_;refine dQ [79, 80] [] iA ?_;refine dQ [81] [] iL ?_;refine dC [9] [] ?_;refine dQ [82, 83] [] iA ?_;refine dQ [84] [] iL ?_;refine dC [1] [] ?_
              refine dQ [85, 86] [] (call_r hrb rfl rfl (arg_e (arg_e arg_nil)) (.inl rfl) (fun _ => rfl)) ?_;refine dC [87] [] ?_;refine dC [78, 88] [] ?_;refine dreg_end (by kernel_rfl) ?_
              refine seq_n ?_;refine wG ?_;refine kS ?_;refine sR ?_;iterate 3 refine rC ?_
              refine rO ?_;refine rC ?_;refine rO ?_;refine rC ?_;refine rO ?_;refine rQ iA ?_;refine rO ?_;refine rQ iL ?_;refine rO ?_;refine rC ?_;refine rO ?_;refine rQ iA ?_
              refine rO ?_;refine rQ iL ?_;refine rO ?_;refine rC ?_;refine rO ?_;refine rQ (call_r hbad rfl rfl (arg_e (arg_e arg_nil)) (.inl rfl) (fun _ => rfl)) ?_;refine rO ?_
              refine rC ?_;refine rQ iT ?_;refine rC ?_;iterate 10 refine rT ?_
              refine rQ iG ?_;refine nS ?_;refine wG ?_;refine wc_skip ?_;refine blk_n ?_;refine seq_n ?_;refine wc_region ?_;refine rC ?_;refine rQ iD ?_;refine rC ?_;refine reg_nil ?_
              exact loop_n (j + 1) [] hjl (by omega) (.of rfl rfl rfl rfl rfl ⟨⟨_, rfl, .refl _⟩, rfl, ⟨_, rfl, .refl _⟩, rfl, ⟨_, rfl, .refl _⟩, rfl, ⟨_, rfl, .refl _⟩, rfl, trivial⟩ trivial)
            · have d62 : decide (b < 4611686018427387904) = false := decide_eq_false h62
              refine wc_of ?_;refine qR ?_;iterate 3 refine rC ?_
              refine rQ iA ?_;refine rQ iL ?_;refine rQ iE ?_;refine rC ?_;refine nS ?_;refine wT ?_;refine kS ?_;refine wc_seq ?_;refine wc_block ?_;iterate 2 refine wc_seq ?_
              refine wc_draw (by kernel_rfl) ?_;refine dC [0] [] ?_;refine dC [8] [] ?_;refine dQ [70, 71] [] iA ?_;refine dQ [72] [] iL ?_;refine dC [9] [] ?_;refine dQ [73, 74] [] iA ?_
              refine dQ [75] [] iL ?_;refine dC [1] [] ?_;refine dQ [76, 77] [] (call_r hbad rfl rfl (arg_e (arg_e arg_nil)) (.inl rfl) (fun _ => rfl)) ?_;refine dC [0] [] ?_
              refine dC [8] [] ?_;refine dQ [79, 80] [] iA ?_;refine dQ [81] [] iL ?_;refine dC [9] [] ?_;refine dQ [82, 83] [] iA ?_;refine dQ [84] [] iL ?_;refine dC [1] [] ?_
              refine dQ [85, 86] [] (call_r hrb rfl rfl (arg_e (arg_e arg_nil)) (.inl rfl) (fun _ => rfl)) ?_;refine dC [87] [] ?_;refine dC [78, 88] [] ?_;refine dreg_end (by kernel_rfl) ?_
              refine seq_n ?_;refine wG ?_;refine kS ?_;refine sR ?_;iterate 3 refine rC ?_
              iterate 10 refine rS ?_
              refine rQ iF ?_;refine rC ?_;iterate 10 refine rT ?_
              refine rQ iG ?_;refine nS ?_;refine wG ?_;refine wc_skip ?_;refine blk_n ?_;refine seq_n ?_;refine wc_region ?_;refine rC ?_;refine rQ iD ?_;refine rC ?_;refine reg_nil ?_
              exact loop_n (j + 1) [] hjl (by omega) (.of rfl rfl rfl rfl rfl ⟨⟨_, rfl, .refl _⟩, rfl, ⟨_, rfl, .refl _⟩, rfl, ⟨_, rfl, .refl _⟩, rfl, ⟨_, rfl, .refl _⟩, rfl, trivial⟩ trivial)
          | false =>
            rw [hq] at hbad hrb
            by_cases h62 : b < 4611686018427387904
            · have d62 : decide (b < 4611686018427387904) = true := decide_eq_true h62
              have hw113 : IntKind.i64.wrap (b + 1) = b + 1 := wrap_i64 (by omega) (by omega)
              have hbad1 := bad_is o (b + 1)
              rw [bad_mono hq] at hbad1
              refine wc_of ?_;refine qR ?_;iterate 3 refine rC ?_
              refine rQ iA ?_;refine rQ iL ?_;refine rQ iE ?_;refine rC ?_;refine nS ?_;refine wT ?_;refine kS ?_;refine wc_seq ?_;refine wc_block ?_;iterate 2 refine wc_seq ?_
              refine wc_draw (by kernel_rfl) ?_;refine dC [0] [] ?_;refine dC [8] [] ?_;refine dQ [70, 71] [] iA ?_;refine dQ [72] [] iL ?_;refine dC [9] [] ?_;refine dQ [73, 74] [] iA ?_
              refine dQ [75] [] iL ?_;refine dC [1] [] ?_;refine dQ [76, 77] [] (call_r hbad rfl rfl (arg_e (arg_e arg_nil)) (.inl rfl) (fun _ => rfl)) ?_;refine dC [0] [] ?_
              refine dC [8] [] ?_;refine dQ [79, 80] [] iA ?_;refine dQ [81] [] iL ?_;refine dC [9] [] ?_;refine dQ [82, 83] [] iA ?_;refine dQ [84] [] iL ?_;refine dC [1] [] ?_
              refine dQ [85, 86] [] (call_r hrb rfl rfl (arg_e (arg_e arg_nil)) (.inl rfl) (fun _ => rfl)) ?_;refine dC [87] [] ?_;refine dC [78, 88] [] ?_;refine dreg_end (by kernel_rfl) ?_
              refine seq_n ?_;refine wG ?_;refine kS ?_;refine sR ?_;iterate 3 refine rC ?_
              refine rO ?_;refine rC ?_;refine rO ?_;refine rC ?_;refine rO ?_;refine rQ iA ?_;refine rO ?_;refine rQ iL ?_;refine rO ?_;refine rC ?_;refine rO ?_;refine rQ iA ?_
              refine rO ?_;refine rQ iL ?_;refine rO ?_;refine rC ?_;refine rO ?_;refine rQ (call_r hbad rfl rfl (arg_e (arg_e arg_nil)) (.inl rfl) (fun _ => rfl)) ?_;refine rO ?_
              refine rC ?_;refine rQ iT ?_;refine rC ?_;refine rP ?_;refine rC ?_;refine rP ?_;refine rC ?_;refine rP ?_;refine rQ iA ?_;refine rP ?_;refine rQ iL ?_;refine rP ?_
              refine rC ?_;refine rP ?_;refine rQ iA ?_;refine rP ?_;refine rQ iL ?_;refine rP ?_;refine rC ?_;refine rP ?_;refine rQ (add_int (m := b + 1) tab_ok rfl rfl hw113) ?_
              refine rP ?_;refine rQ (call_r hbad1 rfl rfl (arg_e (arg_e arg_nil)) (.inl rfl) (fun _ => rfl)) ?_;refine rQ iU ?_;refine nS ?_;refine wG ?_;refine wc_skip ?_;refine blk_n ?_
              refine seq_n ?_;refine wc_region ?_;refine rC ?_;refine rQ iD ?_;refine rC ?_;refine reg_nil ?_
              exact loop_n (j + 1) [] hjl (by omega) (.of rfl rfl rfl rfl rfl ⟨⟨_, rfl, .refl _⟩, rfl, ⟨_, rfl, .refl _⟩, rfl, ⟨_, rfl, .refl _⟩, rfl, ⟨_, rfl, .refl _⟩, rfl, trivial⟩ trivial)
            · have d62 : decide (b < 4611686018427387904) = false := decide_eq_false h62
              refine wc_of ?_;refine qR ?_;iterate 3 refine rC ?_
              refine rQ iA ?_;refine rQ iL ?_;refine rQ iE ?_;refine rC ?_;refine nS ?_;refine wT ?_;refine kS ?_;refine wc_seq ?_;refine wc_block ?_;iterate 2 refine wc_seq ?_
              refine wc_draw (by kernel_rfl) ?_;refine dC [0] [] ?_;refine dC [8] [] ?_;refine dQ [70, 71] [] iA ?_;refine dQ [72] [] iL ?_;refine dC [9] [] ?_;refine dQ [73, 74] [] iA ?_
              refine dQ [75] [] iL ?_;refine dC [1] [] ?_;refine dQ [76, 77] [] (call_r hbad rfl rfl (arg_e (arg_e arg_nil)) (.inl rfl) (fun _ => rfl)) ?_;refine dC [0] [] ?_
              refine dC [8] [] ?_;refine dQ [79, 80] [] iA ?_;refine dQ [81] [] iL ?_;refine dC [9] [] ?_;refine dQ [82, 83] [] iA ?_;refine dQ [84] [] iL ?_;refine dC [1] [] ?_
              refine dQ [85, 86] [] (call_r hrb rfl rfl (arg_e (arg_e arg_nil)) (.inl rfl) (fun _ => rfl)) ?_;refine dC [87] [] ?_;refine dC [78, 88] [] ?_;refine dreg_end (by kernel_rfl) ?_
              refine seq_n ?_;refine wG ?_;refine kS ?_;refine sR ?_;iterate 3 refine rC ?_
              iterate 10 refine rS ?_
              refine rQ iF ?_;refine rC ?_;iterate 10 refine rT ?_
              refine rQ iG ?_;refine nS ?_;refine wG ?_;refine wc_skip ?_;refine blk_n ?_;refine seq_n ?_;refine wc_region ?_;refine rC ?_;refine rQ iD ?_;refine rC ?_;refine reg_nil ?_
              exact loop_n (j + 1) [] hjl (by omega) (.of rfl rfl rfl rfl rfl ⟨⟨_, rfl, .refl _⟩, rfl, ⟨_, rfl, .refl _⟩, rfl, ⟨_, rfl, .refl _⟩, rfl, ⟨_, rfl, .refl _⟩, rfl, trivial⟩ trivial)
        · have he : j = p.length := by omega
          have h4 : decide ((j : Int) < (p.length : Int)) = false := decide_eq_false (by omega)
          refine wc_of ?_;refine qR ?_;iterate 3 refine rC ?_
          refine rQ iA ?_;refine rQ iL ?_;refine rQ iE ?_;refine rC ?_;refine nS ?_;refine wF ?_;refine wc_exit ?_;refine seq_x ?_;refine loop_x ?_;refine blk_x ?_;refine blk_n ?_
          refine seq_n ?_;refine wc_region ?_;refine rC ?_;refine rQ iD ?_;refine rC ?_;refine reg_nil ?_
          exact loop_n (i + 1) [] hlt (by omega) (.of rfl rfl rfl rfl rfl ⟨⟨_, rfl, .refl _⟩, rfl, ⟨_, rfl, .refl _⟩, rfl, ⟨_, rfl, .refl _⟩, rfl, trivial⟩ trivial)
      · have h3 : decide ((i : Int) < (l.length : Int)) = false := decide_eq_false (by omega)
        refine wc_of ?_;refine qR ?_;iterate 2 refine rC ?_
        refine rQ iE ?_;refine rC ?_;refine nS ?_;refine wF ?_;refine wc_exit ?_;refine seq_x ?_;refine loop_x ?_;refine blk_x ?_;refine seq_n ?_;refine sR ?_;refine rC ?_
        refine rQ (call_r hcnt rfl rfl (arg_e arg_nil) (.inl rfl) (fun _ => rfl)) ?_;iterate 9 refine rC ?_
        refine nR ?_;iterate 2 refine rC ?_
        refine rQ (call_r htou rfl rfl (arg_e (arg_e arg_nil)) (.inl rfl) (fun _ => rfl)) ?_;iterate 2 refine rC ?_
        refine rQ (call_r hrtou rfl rfl (arg_e (arg_e arg_nil)) (.inl rfl) (fun _ => rfl)) ?_;iterate 2 refine rC ?_
        refine nQ ?_;refine sR ?_;refine rC ?_;refine rQ (call_r hkin rfl rfl (arg_e arg_nil) (.inl rfl) (fun _ => rfl)) ?_;iterate 4 refine rC ?_
        refine rQ (build_arr tab_ok rfl rfl rfl rfl rfl) ?_;refine rQ (neq_data rfl rfl rfl rfl (by kernel_rfl) (by decide) (k4_eq l.flatten)) ?_;refine rC ?_;refine rP ?_
        refine rC ?_;refine rP ?_;refine rQ (len_arx tab_ok rfl rfl) ?_;refine rP ?_;refine rC ?_;refine rP ?_;refine rQ iE ?_;refine rP ?_;refine rC ?_;refine rQ iG ?_
        refine rC ?_;refine rO ?_;refine rC ?_;refine rO ?_;refine rQ (cap_arx tab_ok rfl rfl) ?_;refine rO ?_;refine rC ?_;refine rO ?_;refine rQ (len_arx tab_ok rfl rfl) ?_
        refine rO ?_;refine rC ?_;refine rQ iF ?_;refine nS ?_;refine wF ?_;refine kS ?_;refine qR ?_;refine rC ?_;refine nS ?_;refine wc_block ?_
        refine wc_inv (fun k : Nat => ⟨[(16, .int .i64 k), (15, .d (.arr 1 i6 U)), (14, .d (.arx 1 i6 U))], [], 72, Tryz.f10.ntmps, 64⟩) (fun k => k ≤ U.length) (fun k => U.length - k) 0 [] (Nat.zero_le _)
          (.of rfl rfl rfl rfl rfl ⟨⟨_, rfl, .refl _⟩, rfl, ⟨_, rfl, .refl _⟩, rfl, ⟨_, rfl, .refl _⟩, rfl, trivial⟩ trivial) ?_
        intro k hk
        by_cases hkl : k < U.length
        · have h5 : decide ((k : Int) < (U.length : Int)) = true := decide_eq_true (by omega)
          obtain ⟨z, hz⟩ : ∃ z, U[k]? = some z := ⟨_, List.getElem?_eq_getElem hkl⟩
          have hz' : U[((k : Int)).toNat]? = some z := by rw [Int.toNat_natCast]; exact hz
          have eZ : (!decide (z = z)) = false := by rw [decide_eq_true rfl]; rfl
          refine wc_of ?_;refine qR ?_;iterate 2 refine rC ?_
          refine rQ (len_arx tab_ok rfl rfl) ?_;refine rC ?_;refine nS ?_;refine wT ?_;refine kS ?_;refine wc_seq ?_;refine wc_block ?_;refine wc_seq ?_;refine wc_draw (by kernel_rfl) ?_
          refine dC [14] [] ?_;refine dC [16] [] ?_;refine dQ [157, 158] [] (index_arx tab_ok rfl rfl rfl rfl rfl (by omega) (by assumption)) ?_;refine dQ [159] [] iL ?_;refine dC [15] [] ?_
          refine dC [16] [] ?_;refine dQ [161, 162] [] iA ?_;refine dQ [163] [] iL ?_;refine dC [160, 164] [] ?_;refine dreg_end (by kernel_rfl) ?_;refine seq_n ?_;refine wF ?_
          refine wc_skip ?_;refine blk_n ?_;refine seq_n ?_;refine wc_region ?_;refine rC ?_;refine rQ iD ?_;refine rC ?_;refine reg_nil ?_
          exact loop_n (k + 1) [] hkl (by omega) (.of rfl rfl rfl rfl rfl ⟨⟨_, rfl, .refl _⟩, rfl, ⟨_, rfl, .refl _⟩, rfl, ⟨_, rfl, .refl _⟩, rfl, trivial⟩ trivial)
        · have h5 : decide ((k : Int) < (U.length : Int)) = false := decide_eq_false (by omega)
          refine wc_of ?_;refine qR ?_;iterate 2 refine rC ?_
          refine rQ (len_arx tab_ok rfl rfl) ?_;refine rC ?_;refine nS ?_;refine wF ?_;refine wc_exit ?_;refine seq_x ?_;refine loop_x ?_;refine blk_x ?_;refine seq_n ?_;refine sR ?_
          refine rQ (call_r lives_is rfl rfl arg_nil (.inl rfl) (fun _ => rfl)) ?_;refine rC ?_;refine nS ?_;refine wc_ret ?_
          exact ⟨trivial, [], lf⟩
end Go.Proofs.YtmojbghcngdkpaaGreatDoor

namespace Go.Proofs.YtmojbghcngdkpaaGreatDoor
open Go.Eng Go.Plain
set_option maxHeartbeats 4000000
set_option maxRecDepth 20000
set_option linter.unusedVariables false
attribute [local irreducible] WC RegS RegD SeqQ BlkQ ScoQ RegK CutK Sat SatN FnIs LoopQ StepIs OpIs
abbrev wordsL (n : List UInt8) : List (List UInt8) := [[99, 108, 105, 101, 110, 116], [114, 101, 97, 100, 32] ++ n, [119, 114, 105, 116, 101, 32] ++ n ++ [32, 48, 48], [102, 108, 117, 115, 104], [111, 112, 32, 57, 32] ++ n ++ [32, 45], [119, 114, 105, 116, 101, 32] ++ n ++ [32, 45], [111, 112, 32, 51, 32, 48, 32, 102, 102], [114, 101, 97, 100, 32] ++ n ++ [32], [102, 108, 117, 115, 104, 32, 48], [111, 112, 32, 50, 32] ++ n ++ [32, 48, 48], [99, 108, 105, 101, 110, 116, 32, 49], [111, 112, 32, 50, 53, 54, 32] ++ n ++ [32, 45], [119, 114, 105, 116, 101, 32] ++ n ++ [32, 48], [119, 114, 105, 116, 101, 32] ++ n ++ [32, 48, 65], [], [114, 101, 97, 100]]
theorem wordsL_le {n w : List UInt8} (hn : n.length ≤ 20) (h : w ∈ wordsL n) : w.length ≤ 35 := by
  simp only [wordsL, List.mem_cons, List.not_mem_nil, or_false] at h
  rcases h with rfl | rfl | rfl | rfl | rfl | rfl | rfl | rfl | rfl | rfl | rfl | rfl | rfl | rfl | rfl | rfl <;> simp only [List.length_append, List.length_cons, List.length_nil] <;> omega
theorem law_lines (L : List UInt8) (ix : Int) (h0 : -9223372036854775808 ≤ ix) (h1 : ix ≤ 9223372036854775807) : FnIs Tryz.prog 14 [.d (encB L), .int .i64 ix] [] (.bool true) [] := by
  have hbl : (byI L).length = L.length := byI_len L
  refine fnIs_of tab_ok Tryz.func14 rfl rfl rfl ?_
  by_cases h80 : 80 < L.length
  · have d80 : decide (80 < ((byI L).length : Int)) = true := decide_eq_true (by omega)
    refine sR ?_;refine rC ?_;refine nQ ?_;refine sR ?_;refine rC ?_;refine rQ iE ?_;refine rC ?_;refine nS ?_;refine wT ?_;refine sR ?_;refine rQ (call_r lives_is rfl rfl arg_nil (.inl rfl) (fun _ => rfl)) ?_
    refine rC ?_;refine nS ?_;refine wc_ret ?_;refine seq_r ?_
    exact ⟨trivial, [], lf⟩
  have d80 : decide (80 < ((byI L).length : Int)) = false := decide_eq_false (by omega)
  have hnum := number_is ix h0 h1
  have hnl := itoa_len h0 h1
  generalize Lib.itoa ix = n at *
  refine sR ?_;refine rC ?_;refine nQ ?_;refine sR ?_;refine rC ?_;refine rQ iE ?_;refine rC ?_;refine nS ?_;refine wF ?_;refine kS ?_;refine sR ?_;refine rC ?_;refine rQ (call_r hnum rfl rfl (arg_e arg_nil) (.inl rfl) (fun _ => rfl)) ?_
  refine rC ?_;refine nR ?_;refine rC ?_
  refine rQ (add_str (a := [114, 101, 97, 100, 32]) (b := n) rfl rfl (by simp only [List.length_append, List.length_cons, List.length_nil]; omega) rfl) ?_
  refine rC ?_
  refine rQ (add_str (a := [119, 114, 105, 116, 101, 32]) (b := n) rfl rfl (by simp only [List.length_append, List.length_cons, List.length_nil]; omega) rfl) ?_
  refine rQ (add_str (a := [119, 114, 105, 116, 101, 32] ++ n) (b := [32, 48, 48]) rfl rfl (by simp only [List.length_append, List.length_cons, List.length_nil]; omega) rfl) ?_
  refine rC ?_
  refine rQ (add_str (a := [111, 112, 32, 57, 32]) (b := n) rfl rfl (by simp only [List.length_append, List.length_cons, List.length_nil]; omega) rfl) ?_
  refine rQ (add_str (a := [111, 112, 32, 57, 32] ++ n) (b := [32, 45]) rfl rfl (by simp only [List.length_append, List.length_cons, List.length_nil]; omega) rfl) ?_
  refine rC ?_
  refine rQ (add_str (a := [119, 114, 105, 116, 101, 32]) (b := n) rfl rfl (by simp only [List.length_append, List.length_cons, List.length_nil]; omega) rfl) ?_
  refine rQ (add_str (a := [119, 114, 105, 116, 101, 32] ++ n) (b := [32, 45]) rfl rfl (by simp only [List.length_append, List.length_cons, List.length_nil]; omega) rfl) ?_
  refine rC ?_
  refine rQ (add_str (a := [114, 101, 97, 100, 32]) (b := n) rfl rfl (by simp only [List.length_append, List.length_cons, List.length_nil]; omega) rfl) ?_
  refine rQ (add_str (a := [114, 101, 97, 100, 32] ++ n) (b := [32]) rfl rfl (by simp only [List.length_append, List.length_cons, List.length_nil]; omega) rfl) ?_
  refine rC ?_
  refine rQ (add_str (a := [111, 112, 32, 50, 32]) (b := n) rfl rfl (by simp only [List.length_append, List.length_cons, List.length_nil]; omega) rfl) ?_
  refine rQ (add_str (a := [111, 112, 32, 50, 32] ++ n) (b := [32, 48, 48]) rfl rfl (by simp only [List.length_append, List.length_cons, List.length_nil]; omega) rfl) ?_
  refine rC ?_
  refine rQ (add_str (a := [111, 112, 32, 50, 53, 54, 32]) (b := n) rfl rfl (by simp only [List.length_append, List.length_cons, List.length_nil]; omega) rfl) ?_
  refine rQ (add_str (a := [111, 112, 32, 50, 53, 54, 32] ++ n) (b := [32, 45]) rfl rfl (by simp only [List.length_append, List.length_cons, List.length_nil]; omega) rfl) ?_
  refine rC ?_
  refine rQ (add_str (a := [119, 114, 105, 116, 101, 32]) (b := n) rfl rfl (by simp only [List.length_append, List.length_cons, List.length_nil]; omega) rfl) ?_
  refine rQ (add_str (a := [119, 114, 105, 116, 101, 32] ++ n) (b := [32, 48]) rfl rfl (by simp only [List.length_append, List.length_cons, List.length_nil]; omega) rfl) ?_
  refine rC ?_
  refine rQ (add_str (a := [119, 114, 105, 116, 101, 32]) (b := n) rfl rfl (by simp only [List.length_append, List.length_cons, List.length_nil]; omega) rfl) ?_
  refine rQ (add_str (a := [119, 114, 105, 116, 101, 32] ++ n) (b := [32, 48, 65]) rfl rfl (by simp only [List.length_append, List.length_cons, List.length_nil]; omega) rfl) ?_
  refine rQ (StepIs.frozen (build_slice (s := 1) tab_ok rfl rfl rfl rfl rfl rfl rfl rfl) (Frz.litsN (enc := strD) (wordsL n) rfl (fun _ _ => rfl))) ?_;refine rC ?_
  refine nR ?_;refine rC ?_;refine nQ ?_;refine sR ?_;refine rC ?_;refine nS ?_;refine wc_block ?_
  refine wc_inv (fun a : List UInt8 × Nat => ⟨[(8, .int .i64 a.2), (7, .d (strD a.1)), (6, .d (.arr 1 strD (wordsL n))), (0, .d (encB L))], [], 72, Tryz.f14.ntmps, 64⟩) (fun a => a.2 ≤ L.length ∧ a.1.length ≤ 36 * a.2) (fun a => L.length - a.2) ([], 0) [] ⟨Nat.zero_le _, Nat.le_refl _⟩
    (.of rfl rfl rfl rfl rfl ⟨⟨_, rfl, .refl _⟩, rfl, ⟨_, rfl, .refl _⟩, rfl, ⟨_, rfl, .refl _⟩, rfl, ⟨_, rfl, .refl _⟩, rfl, trivial⟩ trivial) ?_
  rintro ⟨s, k⟩ ⟨hk, hsl⟩
  simp only at hk hsl
  by_cases hlt : k < L.length
  · have h3 : decide ((k : Int) < ((byI L).length : Int)) = true := decide_eq_true (by omega)
    obtain ⟨c, hc⟩ : ∃ c, L[k]? = some c := ⟨_, List.getElem?_eq_getElem hlt⟩
    have hc' : (byI L)[((k : Int)).toNat]? = some (c.toNat : Int) := by rw [Int.toNat_natCast]; exact byI_get hc
    have hcb := c.toNat_lt
    have hw61 : IntKind.i64.wrap ((c.toNat % 64 : Nat) : Int) = ((c.toNat % 64 : Nat) : Int) := wrap_i64 (by omega) (by omega)
    obtain ⟨w, hw0⟩ : ∃ w, (wordsL n)[c.toNat % 64 % 16]? = some w := ⟨_, List.getElem?_eq_getElem (by show c.toNat % 64 % 16 < 16; omega)⟩
    have hw : (wordsL n)[(((c.toNat % 64 % 16 : Nat) : Int)).toNat]? = some w := by rw [Int.toNat_natCast]; exact hw0
    have hwl := wordsL_le hnl (List.mem_of_getElem? hw0)
    have hl67 : s.length + w.length ≤ 9223372036854775807 := by omega
    have hl68 : (s ++ w).length + [(10 : UInt8)].length ≤ 9223372036854775807 := by simp; omega
    have hlen : (s ++ w ++ [(10 : UInt8)]).length = (s ++ w).length + 1 := by simp; omega
    have hlen2 : (s ++ w).length = s.length + w.length := List.length_append
    have hw77 : IntKind.i64.wrap (((s ++ w ++ [(10 : UInt8)]).length : Int) - 1) = ((s ++ w).length : Int) := by rw [hlen, wrap_i64 (by omega) (by omega)]; omega
    have hle78 : (s ++ w).length ≤ (s ++ w ++ [(10 : UInt8)]).length := by omega
    have htk78 : (s ++ w ++ [(10 : UInt8)]).take (s ++ w).length = s ++ w := List.take_left'  rfl
    by_cases h250 : 250 < c.toNat
    · have d250 : decide (250 < (c.toNat : Int)) = true := decide_eq_true (by omega)
      refine wc_of ?_;refine qR ?_;iterate 2 refine rC ?_
      refine rQ iE ?_;refine rC ?_;refine nS ?_;refine wT ?_;refine kS ?_;refine wc_seq ?_;refine wc_block ?_;refine sR ?_;iterate 4 refine rC ?_
      refine rQ iA ?_;refine rQ iL ?_;refine rQ (rem_nat (a := c.toNat) (b := 64) tab_ok rfl rfl rfl (by decide)) ?_;refine rQ (conv_int (m := ((c.toNat % 64 : Nat) : Int)) tab_ok rfl rfl rfl hw61) ?_
      refine rC ?_;refine rQ iE ?_;refine rQ (rem_nat (a := c.toNat % 64) (b := 16) tab_ok rfl rfl rfl (by decide)) ?_;refine rQ (index_arr tab_ok rfl rfl rfl rfl rfl (by omega) hw) ?_
      refine rQ iL ?_;refine rQ (add_str (a := s) (b := w) rfl rfl hl67 rfl) ?_;refine rQ (add_str (a := s ++ w) (b := [10]) rfl rfl hl68 rfl) ?_;refine rC ?_;refine nR ?_
      iterate 2 refine rC ?_
      refine rQ iA ?_;refine rQ iL ?_;refine rC ?_;refine nS ?_;refine wT ?_;refine wc_region ?_;iterate 2 refine rC ?_
      refine rQ (len_s tab_ok rfl rfl) ?_;refine rQ (sub_int (m := ((s ++ w).length : Int)) tab_ok rfl rfl hw77) ?_;refine rQ (str_to (l := s ++ w ++ [10]) (hi := (s ++ w).length) (m := s ++ w) tab_ok rfl rfl rfl hle78 htk78) ?_
      refine rC ?_;refine reg_nil ?_;refine blk_n ?_;refine seq_n ?_;refine wc_region ?_;refine rC ?_;refine rQ iD ?_;refine rC ?_;refine reg_nil ?_
      exact loop_n (s ++ w, k + 1) [] ⟨hlt, by show (s ++ w).length ≤ 36 * (k + 1); omega⟩ (by show L.length - (k + 1) < L.length - k; omega) (.of rfl rfl rfl rfl rfl ⟨⟨_, rfl, .refl _⟩, rfl, ⟨_, rfl, .refl _⟩, rfl, ⟨_, rfl, .refl _⟩, rfl, ⟨_, rfl, .refl _⟩, rfl, trivial⟩ trivial)
    · have d250 : decide (250 < (c.toNat : Int)) = false := decide_eq_false (by omega)
      refine wc_of ?_;refine qR ?_;iterate 2 refine rC ?_
      refine rQ iE ?_;refine rC ?_;refine nS ?_;refine wT ?_;refine kS ?_;refine wc_seq ?_;refine wc_block ?_;refine sR ?_;iterate 4 refine rC ?_
      refine rQ iA ?_;refine rQ iL ?_;refine rQ (rem_nat (a := c.toNat) (b := 64) tab_ok rfl rfl rfl (by decide)) ?_;refine rQ (conv_int (m := ((c.toNat % 64 : Nat) : Int)) tab_ok rfl rfl rfl hw61) ?_
      refine rC ?_;refine rQ iE ?_;refine rQ (rem_nat (a := c.toNat % 64) (b := 16) tab_ok rfl rfl rfl (by decide)) ?_;refine rQ (index_arr tab_ok rfl rfl rfl rfl rfl (by omega) hw) ?_
      refine rQ iL ?_;refine rQ (add_str (a := s) (b := w) rfl rfl hl67 rfl) ?_;refine rQ (add_str (a := s ++ w) (b := [10]) rfl rfl hl68 rfl) ?_;refine rC ?_;refine nR ?_
      iterate 2 refine rC ?_
      refine rQ iA ?_;refine rQ iL ?_;refine rC ?_;refine nS ?_;refine wF ?_;refine wc_skip ?_;refine blk_n ?_;refine seq_n ?_;refine wc_region ?_;refine rC ?_;refine rQ iD ?_
      refine rC ?_;refine reg_nil ?_
      exact loop_n (s ++ w ++ [10], k + 1) [] ⟨hlt, by show (s ++ w ++ [10]).length ≤ 36 * (k + 1); omega⟩ (by show L.length - (k + 1) < L.length - k; omega) (.of rfl rfl rfl rfl rfl ⟨⟨_, rfl, .refl _⟩, rfl, ⟨_, rfl, .refl _⟩, rfl, ⟨_, rfl, .refl _⟩, rfl, ⟨_, rfl, .refl _⟩, rfl, trivial⟩ trivial)
  · have h3 : decide ((k : Int) < ((byI L).length : Int)) = false := decide_eq_false (by omega)
    have hrp := rparse_is s (by omega)
    have hp := parse_is s (by omega)
    have hlen := parse_small s
    generalize hr : parseP s [] 1 = r at *
    obtain ⟨m, j, e⟩ := r
    obtain ⟨hm1, hm2⟩ := hlen
    simp only at hm1 hm2
    have hs := rsame_is m m (by omega) hm2
    rw [if_pos rfl] at hs
    have e1 : decide (e = e) = true := decide_eq_true rfl
    have e2 : decide ((j : Int) = (j : Int)) = true := decide_eq_true rfl
    refine wc_of ?_;refine qR ?_;iterate 2 refine rC ?_
    refine rQ iE ?_;refine rC ?_;refine nS ?_;refine wF ?_;refine wc_exit ?_;refine seq_x ?_;refine loop_x ?_;refine blk_x ?_;refine seq_n ?_;refine sR ?_;refine rC ?_
    refine rQ (call_r hrp rfl rfl (arg_e arg_nil) (.inl rfl) (fun _ => rfl)) ?_;iterate 7 refine rC ?_
    refine nR ?_;refine rC ?_;refine rQ (call_r hp rfl rfl (arg_e arg_nil) (.inl rfl) (fun _ => rfl)) ?_;iterate 7 refine rC ?_
    refine nR ?_;iterate 4 refine rC ?_
    refine rO ?_;refine rC ?_;refine rO ?_;refine rC ?_;refine rO ?_;refine rC ?_;refine rQ iT ?_;refine rC ?_;refine rO ?_;refine rC ?_;refine rO ?_;refine rC ?_;refine rO ?_
    refine rQ (call_r hs rfl rfl (arg_d rfl trivial (xl_dle _) (arg_e arg_nil)) (.inl rfl) (fun _ => rfl)) ?_;refine rO ?_;refine rC ?_;refine rQ iT ?_;refine rC ?_
    refine rP ?_;refine rQ (call_r lives_is rfl rfl arg_nil (.inl rfl) (fun _ => rfl)) ?_;refine rQ iU ?_;refine rC ?_;refine nS ?_;refine wc_ret ?_
    exact ⟨trivial, [], lf⟩
end Go.Proofs.YtmojbghcngdkpaaGreatDoor

namespace Go.Eng
open Go.RowKit
theorem Frz.ownxe {r te s : Nat} {α : Type} {enc : α → D} {xs : List α} {len : Nat} (hl : len = xs.length) : Frz r (.ds te s true enc xs) (.own r 0 len s none) (.d (.arx s enc xs)) := by
  subst hl
  refine ⟨rfl, fun _ => rfl, fun _ _ => trivial, fun σ w X X' hx hn hr cs h => ?_⟩
  rcases h with ⟨h0, _, hl, _, rfl⟩ | ⟨b, c, ad, hb, rfl, hle1, hle2, hle3, had⟩
  · exact .inl ⟨List.eq_nil_of_length_eq_zero hl, none, rfl⟩
  · rcases hr with ⟨h0, rfl⟩ | ⟨b', c', cur, hb', hex, hh, hsz, hlen, hmax, f, hf, htake⟩
    · rw [hb] at h0; cases h0
    · rw [hb] at hb'
      cases hb'
      have hc : c = xs.length := hex rfl
      subst hc
      refine .inr ⟨ad, by simp, hmax, f, fun i hi => ?_⟩
      obtain ⟨h1, h2⟩ := hf i hi
      have hoff : ad = ⟨b, 0 * s, none⟩ := had (by omega)
      subst hoff
      refine ⟨Enc.sub hx _ _ h1, h2, fun j u hj => ⟨?_, hn b _ hb⟩⟩
      rw [add_mk, cell_of_row w b _ cur te (0, 0) hh]
      have hjs : j < s := by rw [← h2]; exact (List.getElem?_eq_some_iff.1 hj).1
      have hcg := cat_get (f := f) (s := s) xs.length (fun i hi => (hf i hi).2) i j hi hjs
      rw [← htake, hj, List.getElem?_take] at hcg
      have hlt2 : i * s + j < xs.length * s := by
        have : (i + 1) * s ≤ xs.length * s := Nat.mul_le_mul_right s hi
        rw [Nat.add_mul] at this; omega
      rw [if_pos hlt2] at hcg
      rw [← Array.getElem?_toList, Nat.zero_mul, Nat.zero_add]
      exact hcg
section
variable {P : Program} {T : Tab} {env : Env} {h : Upds} {n : Nat}
theorem append_arx_one (hT : TabOk P T) {t e r2 : Nat} {re : TyR} {s : Nat} {ex2 : Bool} {cap2 : Option Nat} {α : Type} {enc : α → D} {xs : List α} {x y : Operand} {d : D} (el : α) (ht : tdesc T t = some (.slice e)) (he : lk T e = some re) (hs : Nat.beq re.size s = true) (hs0 : Nat.blt 0 s = true)
    (hx : evalA env x = some (.d (.arx s enc xs))) (hy : evalA env y = some (.own r2 0 1 s cap2)) (hrow2 : lookH h r2 = some (.lits e s 1 ex2 (.acons (.d d) .anil))) (hd : d = enc el) (hsz : (enc el).size = s)
    (hlen : xs.length + 1 ≤ 1048576) (hbytes : Nat.ble re.bytes 134217728 = true) :
    StepIs P (.call { callee := .builtin .append, args := #[x, y], argTypes := #[t, t] }) env h n (some (.own n 0 (xs.length + 1) s none)) [(n, some (.ds e s false enc (xs ++ [el])))] := by
  have hb := Nat.le_of_ble_eq_true hbytes
  have hs1 := Nat.eq_of_beq_eq_true hs
  have hs0 := Nat.le_of_ble_eq_true hs0
  refine append_fresh hT (ys := [el]) ht he hs1 (by simp) (by simp only [maxLen, List.length_cons, List.length_nil]; omega) ?_ ?_ ?_
  · have : (xs.length + [el].length) * re.bytes ≤ 1048576 * 134217728 := Nat.mul_le_mul (by simpa using hlen) hb
    omega
  · intro C G st σ w a hA hst
    obtain ⟨hx1, _⟩ := ev_sound hst (hA.ev hx)
    rcases RelV.arx.1 hx1 with ⟨rfl, ad, hv⟩ | ⟨ad, hv, hc1, f, hf⟩
    · exact ⟨ad, 0, fun _ => [], hv, by simp, fun _ => ⟨rfl, rfl⟩, fun i hi => by simp at hi, fun _ _ j v hj => by simp [cat] at hj⟩
    · refine ⟨some ad, xs.length, f, hv, by simp, (fun h => by cases h), fun i hi => ⟨(hf i hi).1, (hf i hi).2.1⟩, fun ad' had j v hj => ?_⟩
      cases had
      have hfl : ∀ i, i < xs.length → (f i).length = s := fun i hi => (hf i hi).2.1
      have hjl := (List.getElem?_eq_some_iff.1 hj).1
      rw [cat_len _ hfl] at hjl
      have hi : j / s < xs.length := Nat.div_lt_of_lt_mul (by rw [Nat.mul_comm]; exact hjl)
      have hm : j % s < s := Nat.mod_lt _ hs0
      have hdm : j / s * s + j % s = j := by rw [Nat.mul_comm]; exact Nat.div_add_mod j s
      have hg := cat_get (f := f) xs.length hfl (j / s) (j % s) hi hm
      rw [hdm, hj] at hg
      have := ((hf (j / s) hi).2.2 (j % s) v hg.symm).1
      rwa [hdm] at this
  · exact src_lits [el] hy (by subst hd; exact hrow2) rfl (fun z hz => by rw [List.mem_singleton.1 hz]; exact hsz) (by simp)
theorem make_big (hT : TabOk P T) {t e : Nat} {re : TyR} {s : Nat} {α : Type} {enc : α → D} {x y : Operand} {k k' : IntKind} {N : Nat} (z : α) (ht : tdesc T t = some (.slice e)) (he : lk T e = some re) (hs : Nat.beq re.size s = true) (hs0 : Nat.blt 0 s = true) (hz : re.zero = enc z)
    (hx : evalA env x = some (.int k N)) (hy : evalA env y = some (.int k' N)) (hlen : N ≤ 2097152) (hbytes : Nat.ble re.bytes 1024 = true) :
    StepIs P (.makeSlice t x y) env h n (some (.own n 0 N s none)) [(n, some (.ds e s true enc (List.replicate N z)))] := .of_comes fun C G st σ w a o ho hA hdst hst hn => by
  have hs0 := Nat.le_of_ble_eq_true hs0
  have hs := Nat.eq_of_beq_eq_true hs
  have hb := Nat.le_of_ble_eq_true hbytes
  obtain ⟨ud, hud, hdd⟩ := tdesc_und hT ht
  cases hdd
  obtain ⟨i, zv, hi, hi1, hi2, hi3, hi4⟩ := (hT e re he).info
  obtain ⟨hx1, _⟩ := RelV.sc.1 (ev_sound hst (hA.ev hx)).1
  obtain ⟨hy1, _⟩ := RelV.sc.1 (ev_sound hst (hA.ev hy)).1
  have hzl : zv.cells.toList.length = s := by
    have h1 := Enc.len _ _ (Enc.closed w (fun _ => False) _ (hT e re he).zero)
    rw [hi4, (hT e re he).zsize, hs] at h1
    exact h1
  have henc : Enc w (st.X C.X0 σ) (enc z) zv.cells.toList := by rw [← hz, ← hi4]; exact Enc.closed _ _ _ (hT e re he).zero
  have hnn : ¬ G n := hn n (Nat.le_refl _) (by omega)
  have hmade : (madeCells zv.cells (N * s)).toList = cat (fun _ => zv.cells.toList) N := by
    have := made_cells zv.cells.toList (by omega) N
    rw [hzl] at this
    rw [cat_const, ← this]
    simp [madeCells]
  have hcl : (cat (fun _ => zv.cells.toList) N).length = N * s := cat_len _ fun _ _ => hzl
  have hsz : (madeCells zv.cells (N * s)).size = N * s := by rw [← Array.length_toList, hmade, hcl]
  obtain ⟨hst', hσn⟩ := hst.new hnn (madeCells zv.cells (N * s)) e N (.ds e s true enc (List.replicate N z)) trivial (fun σ' w' X' hk1 hk2 hσn hh => by
    refine .inr ⟨w.heap.size, N, madeCells zv.cells (N * s), hσn, fun _ => by simp, hh, hsz, by simp, by simp only [maxLen]; omega, fun _ => zv.cells.toList, fun i hi => ⟨by simpa using hk2 _ _ henc, hzl⟩, ?_⟩
    rw [hmade, List.length_replicate, ← hcl, List.take_length])
  have hbb : i.bytes * N ≤ 1024 * 2097152 := Nat.mul_le_mul (by omega) hlen
  have hrun := run_make (P := P) w t e i zv hud hi hi3 k k' N N (by omega) (Int.le_refl _) (by
    have : ((i.bytes * N : Nat) : Int) ≤ 281474976710656 := by omega
    rwa [Int.natCast_mul] at this) (by omega)
  simp only [Int.toNat_natCast, hi1, hs] at hrun
  refine ⟨_, _, .value (.slice (some ⟨w.heap.size, 0, none⟩) N N), _, _, _, fun r => G r ∨ r = n, ⟨rfl, rfl⟩, ?_, .inl rfl, by rw [St.put_upd]; exact hst'.set hdst (u := .slice (some ⟨w.heap.size, 0, none⟩) N N) (RelV.own.2 (.inr ⟨w.heap.size, N, ⟨w.heap.size, 0, none⟩, hσn, by simp, by simp, by simp, by simp, fun _ => by simp⟩)) (.inr rfl),
    fun r hr => Or.inl hr, fun r hr => Or.imp id (fun h => ⟨by omega, by omega⟩) hr⟩
  simp only [execOp, ho, hx1, hy1, Sem.run_bind, hrun, Result.andThen_ok, Sem.run_pure]

end
end Go.Eng

namespace Go.Proofs.YtmojbghcngdkpaaGreatDoor
open Go.Eng Go.Plain
def fop (k : Nat) : POp := ⟨((k * 4 : Nat) : Int), ((k * 1000 : Nat) : Int), List.replicate (k + 1) 0⟩
def fullL : List POp := (List.range 64).map fop
def mostL : List (List POp) := List.replicate 8 fullL
theorem most_chk : chkP mostL = 0 := by decide +kernel
theorem most_ok : OkL mostL := okL_of (by decide +kernel)
theorem most_nine : chkP (mostL ++ [[]]) = 3 := by decide +kernel
theorem full_65 : chkP [fullL ++ [opNil]] = 3 := by decide +kernel
theorem data_65 : chkP [[⟨0, 0, List.replicate 65 0⟩]] = 3 := by decide +kernel
theorem most_len : mostL.length = 8 := by decide
theorem most_mem : ∀ p ∈ mostL, p.length ≤ 64 ∧ ∀ o ∈ p, o.Ok ∧ o.data.length ≤ 64 := fun p hp => by
  obtain ⟨_, h2⟩ := chkP_ok.1 most_chk
  have := h2 p hp
  rw [badP, Bool.or_eq_false_iff, decide_eq_false_iff_not, List.any_eq_false] at this
  exact ⟨by omega, fun o ho => ⟨most_ok p hp o ho, by have := this.2 o ho; simp only [decide_eq_true_eq] at this; omega⟩⟩
theorem most_text : (textP mostL).length ≤ 91704 := text_le (M := 8) (N := 64) (D := 64) (by rw [most_len]; exact Nat.le_refl _) most_mem
theorem most_sum : (mostL.map fun p => 1 + p.length).sum = 520 := by decide +kernel
theorem most_parse (r : List UInt8) : parseP (textP mostL ++ r) [] 1 = parseP r mostL 521 := by
  have := parse_text mostL [] r 1 most_ok (chkP_ok.1 most_chk).2 (by rw [most_len]; decide)
  rw [this, most_sum, List.nil_append]
def sCl : List UInt8 := [99, 108, 105, 101, 110, 116, 10]
def sFl : List UInt8 := [102, 108, 117, 115, 104, 10]
theorem most_client : parseP (textP mostL ++ sCl) [] 1 = ([], 521, 3) := by
  rw [most_parse, parseP_some mostL 521 (s := sCl) (t := sClient) (r := []) (by decide) (by decide +kernel)]
  rw [show addP mostL sClient = ([], 3) by rw [addP, if_pos rfl, if_pos (by rw [most_len]; decide)]]
  rfl
theorem most_flush : parseP (textP mostL ++ sFl) [] 1 = ([], 521, 3) := by
  rw [most_parse, parseP_some mostL 521 (s := sFl) (t := sFlush) (r := []) (by decide) (by decide +kernel)]
  rw [show addP mostL sFlush = ([], 3) by decide +kernel]
  rfl
theorem zeros_cut : ∀ n, cutL (List.replicate n 0) 10 = none
  | 0 => rfl
  | n + 1 => by rw [List.replicate_succ, cutL, if_neg (by decide), zeros_cut n]
theorem zeros_parse {n : Nat} (hn : 0 < n) : parseP (List.replicate n 0) [] 1 = ([], 1, 5) :=
  parseP_none _ _ (by intro e; have := congrArg List.length e; simp at this; omega) (zeros_cut n)
def numX : List (List UInt8) := [[57, 50, 50, 51, 51, 55, 50, 48, 51, 54, 56, 53, 52, 55, 55, 53, 56, 48, 55], [45, 57, 50, 50, 51, 51, 55, 50, 48, 51, 54, 56, 53, 52, 55, 55, 53, 56, 48, 56], [57, 50, 50, 51, 51, 55, 50, 48, 51, 54, 56, 53, 52, 55, 55, 53, 56, 48, 56], [45, 57, 50, 50, 51, 51, 55, 50, 48, 51, 54, 56, 53, 52, 55, 55, 53, 56, 48, 57], [45, 48], [43, 49], [48, 48], []]
def rdX (x : List UInt8) : List UInt8 := [99, 108, 105, 101, 110, 116, 10, 114, 101, 97, 100, 32] ++ x ++ [10]
theorem num_0 : parseP (rdX (numX.getD 0 [])) [] 1 = ([[⟨1, 9223372036854775807, []⟩]], 0, 0) := parse_by (by decide +kernel)
theorem num_1 : parseP (rdX (numX.getD 1 [])) [] 1 = ([[⟨1, -9223372036854775808, []⟩]], 0, 0) := parse_by (by decide +kernel)
theorem num_2 : parseP (rdX (numX.getD 2 [])) [] 1 = ([], 2, 5) := parse_by (by decide +kernel)
theorem num_3 : parseP (rdX (numX.getD 3 [])) [] 1 = ([], 2, 5) := parse_by (by decide +kernel)
theorem num_4 : parseP (rdX (numX.getD 4 [])) [] 1 = ([], 2, 5) := parse_by (by decide +kernel)
theorem num_5 : parseP (rdX (numX.getD 5 [])) [] 1 = ([], 2, 5) := parse_by (by decide +kernel)
theorem num_6 : parseP (rdX (numX.getD 6 [])) [] 1 = ([], 2, 5) := parse_by (by decide +kernel)
theorem num_7 : parseP (rdX (numX.getD 7 [])) [] 1 = ([], 2, 5) := parse_by (by decide +kernel)
theorem u8_wrap (n : Nat) : IntKind.u8.wrap (n : Int) = ((UInt8.ofNat n).toNat : Int) := by
  have h := wrap_u8n (a := n % 256) (Nat.mod_lt _ (by decide))
  have e : IntKind.u8.wrap (n : Int) = IntKind.u8.wrap ((n % 256 : Nat) : Int) := by
    simp only [IntKind.wrap, IntKind.bits, IntKind.signed]
    simp
  rw [e, h]
  simp
end Go.Proofs.YtmojbghcngdkpaaGreatDoor
