/- Texts of the proof: P9, P10, P11, Eng75, P12, Eng76, P13, P1, P2, P8, Eng77, P14, PX, P15, P16, P17, P18, P19, P20, P21, P22, P23, P24, P25, P26, P27, P28, PY, P29, P30, Eng78, P31, P32, P33, P34, PZ, P35, P36, P37, P42, Eng80, Eng81, Eng82, P43, PM, PN, P40, P41, P44, P45, P46, Eng83, Eng84, P47a, P47, P48, PO, JP, JQ. -/
import Derived.Test.YtmojbghcngdkpaaGreatDoorG03
import Derived.Test.YtmojbghcngdkpaaGreatDoorG02
import Derived.Sort.Row
import Derived.Sort.Grow
import Derived.Lib.SlicesCompact
import Derived.Test.YtmojbghcngdkpaaGreatDoorRows
import Derived.ProofKit
import Derived.LaidMore
import Derived.OpenShut
import Derived.Stop.Joined
import Derived.HandedShaped
import Derived.Lay
import Derived.SevenTiedAt

set_option linter.unusedVariables false
set_option linter.unusedSimpArgs false
set_option linter.unusedSectionVars false

namespace Go.Proofs.YtmojbghcngdkpaaGreatDoor
open Go.Eng Go.Plain
set_option maxHeartbeats 4000000
attribute [local irreducible] WC RegS RegD SeqQ BlkQ ScoQ RegK CutK Sat SatN FnIs LoopQ StepIs OpIs
abbrev rowS (l : List (List UInt8)) : Row := .ds 9 1 false strD l
theorem grow_is (m : Nat) (hm : 0 < m) (hlen : m ≤ 1048576) : FnIs Tryz.prog 157 [.d (.sc nil_), .int .i64 m] [] (.own 64 0 0 1 none) [(64, rowS [])] := by
  have d0 : decide ((m : Int) < 0) = false := decide_eq_false (by omega)
  have d1 : decide (0 < (m : Int)) = true := decide_eq_true (by omega)
  have hw : IntKind.i64.wrap ((m : Int) - 0) = m := by rw [Int.sub_zero]; exact wrap_i64 (by omega) (by omega)
  refine fnIs_of tab_ok Tryz.func157 rfl rfl rfl ?_;refine sR ?_;refine rC ?_;refine nQ ?_;refine sR ?_;iterate 2 refine rC ?_
  refine nS ?_;refine wG ?_;refine kS ?_;refine qR ?_;iterate 2 refine rC ?_
  refine rQ (cap_nil tab_ok rfl rfl) ?_;refine rC ?_;refine rQ (len_nil tab_ok rfl rfl) ?_;refine rQ (sub_int (m := 0) tab_ok rfl rfl rfl) ?_;refine rQ (sub_int (m := (m : Int)) tab_ok rfl rfl hw) ?_
  refine rC ?_;refine nR ?_;iterate 2 refine rC ?_
  refine nS ?_;refine wT ?_;refine wc_region ?_;iterate 2 refine rC ?_
  refine rQ (cap_nil tab_ok rfl rfl) ?_;refine rQ (slice_n0 tab_ok rfl rfl rfl rfl) ?_;refine rC ?_;refine reg_new (append_zeros (m := m) (s := 1) (e := 9) (re := r9) tab_ok strD rfl Tryz.underlying3 rfl rfl rfl rfl rfl hm hlen rfl) rfl ?_
  refine rC ?_;refine rQ (len_nil tab_ok rfl rfl) ?_;refine rQ (slice_own_to tab_ok rfl rfl rfl rfl (Nat.zero_le _)) ?_;refine rC ?_;refine nR ?_;iterate 2 refine rC ?_
  refine nS ?_;refine wc_ret ?_
  exact ⟨trivial, [(64, some 208)], .of rfl rfl rfl rfl rfl ⟨⟨_, rfl, AVLe.of_eq rfl⟩, rfl, trivial⟩ ⟨⟨rfl, rfl, _, rfl, .refl _⟩, trivial⟩⟩
abbrev encWs (x : List (List UInt8)) : D := .arr 1 strD x
abbrev FL (ls : List (List (List UInt8))) (i : Nat) : Nat := (ls.take i).flatten.length
theorem fl_go {ls : List (List (List UInt8))} {i : Nat} {x : List (List UInt8)} (h : ls[i]? = some x) : (ls.take (i + 1)).flatten = (ls.take i).flatten ++ x := by
  rw [List.take_add_one, h]
  simp
theorem fl_le (ls : List (List (List UInt8))) (i : Nat) : FL ls i ≤ ls.flatten.length := by
  have := congrArg List.flatten (List.take_append_drop i ls)
  rw [List.flatten_append] at this
  have := congrArg List.length this
  rw [List.length_append] at this
  simp only [FL]
  omega
theorem concat_is (ls : List (List (List UInt8))) (hp : 0 < ls.flatten.length) (hL : ls.flatten.length ≤ 1048576) (hn : ls.length ≤ 1000000) : FnIs Tryz.prog 128 [.d (.arr 1 encWs ls)] [] (.own 64 0 ls.flatten.length 1 none) [(64, rowS ls.flatten)] := by
  refine fnIs_of tab_ok Tryz.func128 rfl rfl rfl ?_;refine sR ?_;refine rC ?_;refine nR ?_;refine rC ?_;refine nQ ?_;refine sR ?_;refine rC ?_;refine rQ iE ?_;refine rC ?_
  refine nS ?_;refine wc_block ?_
  refine wc_inv (fun i : Nat => ⟨[(11, .int .i64 i), (10, .int .i64 ls.length), (9, .d (.arr 1 encWs ls)), (3, .int .i64 (FL ls i)), (0, .d (.arr 1 encWs ls))], [], 72, Tryz.f128.ntmps, 64⟩) (fun i => i ≤ ls.length) (fun i => ls.length - i) 0 [] (Nat.zero_le _)
    (.of rfl rfl rfl rfl rfl ⟨⟨_, rfl, .refl _⟩, rfl, ⟨_, rfl, .refl _⟩, rfl, ⟨_, rfl, .refl _⟩, rfl, ⟨_, rfl, .refl _⟩, rfl, ⟨_, rfl, .refl _⟩, rfl, trivial⟩ trivial) ?_
  intro i hi
  refine wc_of ?_;refine sR ?_;refine rC ?_;refine nQ ?_
  refine wc_cond rfl (fun h2 => ?_) (fun h2 => ?_)
  · have hlt : i < ls.length := by have := of_decide_eq_true h2; omega
    obtain ⟨x, hx⟩ : ∃ u, ls[i]? = some u := ⟨_, List.getElem?_eq_getElem hlt⟩
    have hx' : ls[((i : Int)).toNat]? = some x := by rw [Int.toNat_natCast]; exact hx
    have hg : FL ls (i + 1) = FL ls i + x.length := by simp only [FL, fl_go hx, List.length_append]
    have hle := fl_le ls (i + 1)
    have hw : IntKind.i64.wrap ((FL ls i : Int) + (x.length : Int)) = (FL ls (i + 1) : Nat) := by rw [hg]; push_cast; exact wrap_i64 (by omega) (by omega)
    have d0 : decide (((FL ls (i + 1) : Nat) : Int) < 0) = false := decide_eq_false (by omega)
    refine kS ?_;refine wc_seq ?_;refine wc_block ?_;refine sR ?_;refine rQ iA ?_;refine rQ iL ?_;refine rC ?_;refine nR ?_;iterate 2 refine rC ?_
    refine rQ iE ?_;refine rQ (add_int (m := ((FL ls (i + 1) : Nat) : Int)) tab_ok rfl rfl hw) ?_;refine rC ?_;refine nR ?_;iterate 2 refine rC ?_
    refine nS ?_;refine wG ?_;refine wc_skip ?_;refine blk_n ?_;refine seq_n ?_;refine wc_region ?_;refine rQ iD ?_;refine rC ?_;refine reg_nil ?_;refine loop_n (i + 1) [] hlt (by omega) ?_
    exact .of rfl rfl rfl rfl rfl ⟨⟨_, rfl, .refl _⟩, rfl, ⟨_, rfl, .refl _⟩, rfl, ⟨_, rfl, .refl _⟩, rfl, ⟨_, rfl, .refl _⟩, rfl, ⟨_, rfl, .refl _⟩, rfl, trivial⟩ trivial
  · have he : i = ls.length := by have := of_decide_eq_false h2; omega
    subst he
    have hF : FL ls ls.length = ls.flatten.length := by simp only [FL, List.take_length]
    rw [hF]
    refine wc_exit ?_;refine seq_x ?_;refine loop_x ?_;refine blk_x ?_;refine seq_n ?_;refine sR ?_;refine rC ?_;refine reg_new (call_new (grow_is ls.flatten.length hp hL) rfl rfl (arg_e (arg_e arg_nil)) (.inl rfl) rfl rfl) rfl ?_
    refine rC ?_;refine nQ ?_;refine sR ?_;refine rC ?_;refine rQ iE ?_;refine rC ?_;refine nS ?_;refine wc_block ?_
    refine wc_inv (fun i : Nat => ⟨[(27, .int .i64 i), (26, .int .i64 ls.length), (25, .d (.arr 1 encWs ls)), (6, .own 64 0 (FL ls i) 1 none)], [(64, some (rowS (ls.take i).flatten))], 72, Tryz.f128.ntmps, 64⟩) (fun i => i ≤ ls.length) (fun i => ls.length - i) 0 [(64, some 88)] (Nat.zero_le _)
      (.of rfl rfl rfl rfl rfl ⟨⟨_, rfl, .refl _⟩, rfl, ⟨_, rfl, .refl _⟩, rfl, ⟨_, rfl, .refl _⟩, rfl, ⟨_, rfl, .refl _⟩, rfl, trivial⟩ ⟨⟨rfl, rfl, _, rfl, .refl _⟩, trivial⟩) ?_
    intro i hi
    refine wc_of ?_;refine sR ?_;refine rC ?_;refine nQ ?_
    refine wc_cond rfl (fun h2 => ?_) (fun h2 => ?_)
    · have hlt : i < ls.length := by have := of_decide_eq_true h2; omega
      obtain ⟨x, hx⟩ : ∃ u, ls[i]? = some u := ⟨_, List.getElem?_eq_getElem hlt⟩
      have hx' : ls[((i : Int)).toNat]? = some x := by rw [Int.toNat_natCast]; exact hx
      have hg := fl_go hx
      have hle := fl_le ls (i + 1)
      cases x with
      | nil =>
        rw [List.append_nil] at hg
        refine kS ?_;refine wc_seq ?_;refine wc_block ?_;refine sR ?_;refine rQ iA ?_;refine rQ iL ?_;refine rC ?_;refine nS ?_;refine wc_region ?_;iterate 2 refine rC ?_
        refine rQ (append_own_e (α := (List UInt8)) (s' := 1) (enc := strD) tab_ok rfl rfl rfl rfl) ?_;refine rC ?_;refine reg_nil ?_;refine blk_n ?_;refine seq_n ?_;refine wc_region ?_
        refine rQ iD ?_;refine rC ?_;refine reg_nil ?_;refine loop_n (i + 1) [] hlt (by omega) ?_
        simp only [FL, hg]
        exact .of rfl rfl rfl rfl rfl ⟨⟨_, rfl, .refl _⟩, rfl, ⟨_, rfl, .refl _⟩, rfl, ⟨_, rfl, .refl _⟩, rfl, ⟨_, rfl, .refl _⟩, rfl, trivial⟩ ⟨⟨rfl, rfl, _, rfl, .refl _⟩, trivial⟩
      | cons y ys =>
        have hgl : FL ls (i + 1) = FL ls i + (y :: ys).length := by simp only [FL, hg, List.length_append]
        have hlen : ((ls.take i).flatten).length + (y :: ys).length ≤ 1048576 := by rw [← hgl]; omega
        refine kS ?_;refine wc_seq ?_;refine wc_block ?_;refine sR ?_;refine rQ iA ?_;refine rQ iL ?_;refine rC ?_;refine nS ?_;refine wc_region ?_;iterate 2 refine rC ?_
        refine reg_new2 (append_arr (xs := (ls.take i).flatten) (ys := y :: ys) (enc := strD) (s := 1) (ex := false) tab_ok rfl rfl rfl rfl rfl rfl rfl (Nat.succ_pos _) hlen rfl) rfl ?_
        refine rC ?_;refine reg_nil ?_;refine blk_n ?_;refine seq_n ?_;refine wc_region ?_;refine rQ iD ?_;refine rC ?_;refine reg_nil ?_;refine loop_n (i + 1) [(64, some 120)] hlt (by omega) ?_
        rw [hgl, hg]
        exact .of rfl rfl rfl rfl rfl ⟨⟨_, rfl, .refl _⟩, rfl, ⟨_, rfl, .refl _⟩, rfl, ⟨_, rfl, .refl _⟩, rfl, ⟨_, rfl, .refl _⟩, rfl, trivial⟩ ⟨⟨rfl, rfl, _, rfl, .refl _⟩, trivial⟩
    · have he : i = ls.length := by have := of_decide_eq_false h2; omega
      subst he
      refine wc_exit ?_;refine seq_x ?_;refine loop_x ?_;refine blk_x ?_;refine seq_n ?_;refine sR ?_;iterate 2 refine rC ?_
      refine nS ?_;refine wc_ret ?_
      simp only [FL, List.take_length]
      exact ⟨trivial, [(64, some 64)], .of rfl rfl rfl rfl rfl ⟨⟨_, rfl, AVLe.of_eq rfl⟩, rfl, trivial⟩ ⟨⟨rfl, rfl, _, rfl, .refl _⟩, trivial⟩⟩
end Go.Proofs.YtmojbghcngdkpaaGreatDoor

namespace Go.Proofs.YtmojbghcngdkpaaGreatDoor
open Go.Eng Go.Plain
set_option maxHeartbeats 4000000
set_option maxRecDepth 20000
attribute [local irreducible] WC RegS RegD SeqQ BlkQ ScoQ RegK CutK Sat SatN FnIs LoopQ StepIs OpIs
def opV (k i d : List UInt8) : POp := ⟨puV k, atoiV i, (unhexP d).getD []⟩
def opOk (k i d : List UInt8) : Bool := (unhexP d).isSome && puOk k && atoiOk i
abbrev opR (o : POp) (b : Bool) : AV := .tup (.acons (.d (encPOp o)) (.acons (.bool b) .anil))
def opNil : POp := ⟨0, 0, []⟩
theorem puV_in (k : List UInt8) : 0 ≤ puV k ∧ puV k ≤ 255 := by
  unfold puV
  split
  · rename_i u h
    rw [Lib.parseUintB] at h
    split at h
    · cases h
    · have := Lib.parseUintM_le (2 ^ 8 - 1) _ 0 _ (by decide) h
      omega
  · omega
  · omega
theorem opF_is (k i d : List UInt8) : opF k i d = if opOk k i d then some (opV k i d) else none := by
  unfold opF opOk opV puOk puV atoiOk atoiV
  cases Lib.parseUintB 8 k <;> cases Lib.atoiAll i <;> cases unhexP d <;> rfl
theorem nil_op : AVLe (.d (.cons (.sc (.int .u8 0)) (.cons (.sc (.int .i64 0)) (.cons (.sc nil_) .nil)))) (.d (encPOp opNil)) := by
  intro σ w X v h
  unfold RelV at h ⊢
  rw [if_pos (by rfl)] at h ⊢
  obtain ⟨c, rfl, c1, r1, rfl, h1, c2, r2, rfl, h2, c3, r3, rfl, h3, h4⟩ := h
  exact ⟨_, rfl, c1, _, rfl, h1, c2, _, rfl, h2, c3, r3, rfl, .inl ⟨rfl, h3.1⟩, h4⟩
theorem operation_short (w : List (List UInt8)) (h3 : w.length ≠ 3) : FnIs Tryz.prog 127 [.d (.arr 1 strD w)] [] (opR opNil false) [] := by
  have hn : (!decide ((w.length : Int) = 3)) = true := by rw [decide_eq_false (by omega)]; rfl
  refine fnIs_of tab_ok Tryz.func127 rfl rfl rfl ?_;refine sR ?_;refine rN ?_;refine rC ?_;refine nQ ?_;refine sR ?_;refine rC ?_;refine rQ iE ?_;refine rC ?_;refine nS ?_
  refine wT ?_;refine sR ?_;refine rQ iM ?_;refine rW ?_;refine rC ?_;refine nS ?_;refine wc_ret ?_;refine seq_r ?_
  exact ⟨trivial, _, rfl, [], .of rfl rfl rfl rfl rfl ⟨⟨_, rfl, AVLe.tup1 nil_op rfl⟩, rfl, trivial⟩ trivial⟩
theorem operation_full (k i d : List UInt8) (hk : k.length ≤ 281474976710656) (hi : i.length ≤ 281474976710656) (hd : d.length ≤ 1048576) (b1 b2 b3 : Bool) (h1 : (unhexP d).isSome = b1) (h2 : puOk k = b2) (h3 : atoiOk i = b3) : FnIs Tryz.prog 127 [.d (.arr 1 strD [k, i, d])] [] (opR (opV k i d) (opOk k i d)) [] := by
  have hw : IntKind.u8.wrap (puV k) = puV k := by
    obtain ⟨p1, p2⟩ := puV_in k
    rw [show puV k = ((puV k).toNat : Int) by omega]
    exact wrap_u8n (by omega)
  rw [show opOk k i d = (b1 && b2 && b3) by rw [opOk, h1, h2, h3]]
  have hp := pu_is hk
  have ha := atoi_is hi
  have hu := unhex_is d hd
  rw [h2] at hp
  rw [h3] at ha
  unfold unR at hu
  rw [h1] at hu
  refine fnIs_of tab_ok Tryz.func127 rfl rfl rfl ?_
  have g0 : [k, i, d][((0 : Int)).toNat]? = some k := rfl
  have g1 : [k, i, d][((1 : Int)).toNat]? = some i := rfl
  have g2 : [k, i, d][((2 : Int)).toNat]? = some d := rfl
  cases b1 <;> cases b2 <;> cases b3
  · refine sR ?_;refine rN ?_;refine rC ?_;refine nQ ?_;refine sR ?_;refine rC ?_;refine rQ iE ?_;refine rC ?_;refine nS ?_;refine wG ?_;refine kS ?_;refine sR ?_
    refine rC ?_;refine rQ iA ?_;refine rQ iL ?_;refine rQ (call_r hp rfl rfl (arg_e (arg_e (arg_e arg_nil))) (.inl rfl) (fun _ => rfl)) ?_;iterate 5 refine rC ?_
    refine nR ?_;refine rC ?_;refine rQ iA ?_;refine rQ iL ?_;refine rQ (call_r ha rfl rfl (arg_e arg_nil) (.inl rfl) (fun _ => rfl)) ?_;iterate 5 refine rC ?_
    refine nR ?_;refine rC ?_;refine rQ iA ?_;refine rQ iL ?_;refine rQ (call_r hu rfl rfl (arg_e arg_nil) (.inl rfl) (fun _ => rfl)) ?_;iterate 5 refine rC ?_
    refine nQ ?_;refine wc_draw (by kernel_rfl) ?_;refine dC [4] [] ?_;refine dQ [34] [] (conv_int (m := puV k) tab_ok rfl rfl rfl hw) ?_;refine dC [6] [] ?_;refine dC [8] [] ?_
    refine dQ [35, 36, 37] [] iS ?_;refine dC [3] [] ?_;refine dC [39] [] ?_;refine dreg_offq [40, 5] rfl rfl rfl rfl ?_;refine dreg_offq [40, 41] rfl rfl rfl rfl ?_
    refine dQ [40, 42] [] iG ?_;refine dC [43] [] ?_;refine dreg_offq [44, 7] rfl rfl rfl rfl ?_;refine dreg_offq [44, 45] rfl rfl rfl rfl ?_;refine dQ [44, 46] [] iG ?_
    refine dreg_s [2, 38] [64] (store_row tab_ok rfl rfl rfl ⟨_, ⟨rfl, rfl, rfl⟩, rfl⟩ rfl) ?_;refine dC [47] [] ?_;refine dreg_end (by kernel_rfl) ?_;refine seq_n ?_
    refine wc_ret ?_
    exact ⟨trivial, _, rfl, [], lf⟩
  · refine sR ?_;refine rN ?_;refine rC ?_;refine nQ ?_;refine sR ?_;refine rC ?_;refine rQ iE ?_;refine rC ?_;refine nS ?_;refine wG ?_;refine kS ?_;refine sR ?_
    refine rC ?_;refine rQ iA ?_;refine rQ iL ?_;refine rQ (call_r hp rfl rfl (arg_e (arg_e (arg_e arg_nil))) (.inl rfl) (fun _ => rfl)) ?_;iterate 5 refine rC ?_
    refine nR ?_;refine rC ?_;refine rQ iA ?_;refine rQ iL ?_;refine rQ (call_r ha rfl rfl (arg_e arg_nil) (.inl rfl) (fun _ => rfl)) ?_;iterate 5 refine rC ?_
    refine nR ?_;refine rC ?_;refine rQ iA ?_;refine rQ iL ?_;refine rQ (call_r hu rfl rfl (arg_e arg_nil) (.inl rfl) (fun _ => rfl)) ?_;iterate 5 refine rC ?_
    refine nQ ?_;refine wc_draw (by kernel_rfl) ?_;refine dC [4] [] ?_;refine dQ [34] [] (conv_int (m := puV k) tab_ok rfl rfl rfl hw) ?_;refine dC [6] [] ?_;refine dC [8] [] ?_
    refine dQ [35, 36, 37] [] iS ?_;refine dC [3] [] ?_;refine dC [39] [] ?_;refine dreg_offq [40, 5] rfl rfl rfl rfl ?_;refine dreg_offq [40, 41] rfl rfl rfl rfl ?_
    refine dQ [40, 42] [] iG ?_;refine dC [43] [] ?_;refine dreg_offq [44, 7] rfl rfl rfl rfl ?_;refine dreg_offq [44, 45] rfl rfl rfl rfl ?_;refine dQ [44, 46] [] iG ?_
    refine dreg_s [2, 38] [64] (store_row tab_ok rfl rfl rfl ⟨_, ⟨rfl, rfl, rfl⟩, rfl⟩ rfl) ?_;refine dC [47] [] ?_;refine dreg_end (by kernel_rfl) ?_;refine seq_n ?_
    refine wc_ret ?_
    exact ⟨trivial, _, rfl, [], lf⟩
  · refine sR ?_;refine rN ?_;refine rC ?_;refine nQ ?_;refine sR ?_;refine rC ?_;refine rQ iE ?_;refine rC ?_;refine nS ?_;refine wG ?_;refine kS ?_;refine sR ?_
    refine rC ?_;refine rQ iA ?_;refine rQ iL ?_;refine rQ (call_r hp rfl rfl (arg_e (arg_e (arg_e arg_nil))) (.inl rfl) (fun _ => rfl)) ?_;iterate 5 refine rC ?_
    refine nR ?_;refine rC ?_;refine rQ iA ?_;refine rQ iL ?_;refine rQ (call_r ha rfl rfl (arg_e arg_nil) (.inl rfl) (fun _ => rfl)) ?_;iterate 5 refine rC ?_
    refine nR ?_;refine rC ?_;refine rQ iA ?_;refine rQ iL ?_;refine rQ (call_r hu rfl rfl (arg_e arg_nil) (.inl rfl) (fun _ => rfl)) ?_;iterate 5 refine rC ?_
    refine nQ ?_;refine wc_draw (by kernel_rfl) ?_;refine dC [4] [] ?_;refine dQ [34] [] (conv_int (m := puV k) tab_ok rfl rfl rfl hw) ?_;refine dC [6] [] ?_;refine dC [8] [] ?_
    refine dQ [35, 36, 37] [] iS ?_;refine dC [3] [] ?_;refine dC [39] [] ?_;refine dreg_offq [40, 5] rfl rfl rfl rfl ?_;refine dreg_offq [40, 41] rfl rfl rfl rfl ?_
    refine dQ [40, 42] [] iG ?_;refine dC [43] [] ?_;refine dreg_offq [44, 7] rfl rfl rfl rfl ?_;refine dreg_offq [44, 45] rfl rfl rfl rfl ?_;refine dQ [44, 46] [] iG ?_
    refine dreg_s [2, 38] [64] (store_row tab_ok rfl rfl rfl ⟨_, ⟨rfl, rfl, rfl⟩, rfl⟩ rfl) ?_;refine dC [47] [] ?_;refine dreg_end (by kernel_rfl) ?_;refine seq_n ?_
    refine wc_ret ?_
    exact ⟨trivial, _, rfl, [], lf⟩
  · refine sR ?_;refine rN ?_;refine rC ?_;refine nQ ?_;refine sR ?_;refine rC ?_;refine rQ iE ?_;refine rC ?_;refine nS ?_;refine wG ?_;refine kS ?_;refine sR ?_
    refine rC ?_;refine rQ iA ?_;refine rQ iL ?_;refine rQ (call_r hp rfl rfl (arg_e (arg_e (arg_e arg_nil))) (.inl rfl) (fun _ => rfl)) ?_;iterate 5 refine rC ?_
    refine nR ?_;refine rC ?_;refine rQ iA ?_;refine rQ iL ?_;refine rQ (call_r ha rfl rfl (arg_e arg_nil) (.inl rfl) (fun _ => rfl)) ?_;iterate 5 refine rC ?_
    refine nR ?_;refine rC ?_;refine rQ iA ?_;refine rQ iL ?_;refine rQ (call_r hu rfl rfl (arg_e arg_nil) (.inl rfl) (fun _ => rfl)) ?_;iterate 5 refine rC ?_
    refine nQ ?_;refine wc_draw (by kernel_rfl) ?_;refine dC [4] [] ?_;refine dQ [34] [] (conv_int (m := puV k) tab_ok rfl rfl rfl hw) ?_;refine dC [6] [] ?_;refine dC [8] [] ?_
    refine dQ [35, 36, 37] [] iS ?_;refine dC [3] [] ?_;refine dC [39] [] ?_;refine dreg_offq [40, 5] rfl rfl rfl rfl ?_;refine dreg_offq [40, 41] rfl rfl rfl rfl ?_
    refine dQ [40, 42] [] iG ?_;refine dC [43] [] ?_;refine dreg_offq [44, 7] rfl rfl rfl rfl ?_;refine dreg_offq [44, 45] rfl rfl rfl rfl ?_;refine dQ [44, 46] [] iG ?_
    refine dreg_s [2, 38] [64] (store_row tab_ok rfl rfl rfl ⟨_, ⟨rfl, rfl, rfl⟩, rfl⟩ rfl) ?_;refine dC [47] [] ?_;refine dreg_end (by kernel_rfl) ?_;refine seq_n ?_
    refine wc_ret ?_
    exact ⟨trivial, _, rfl, [], lf⟩
  · refine sR ?_;refine rN ?_;refine rC ?_;refine nQ ?_;refine sR ?_;refine rC ?_;refine rQ iE ?_;refine rC ?_;refine nS ?_;refine wG ?_;refine kS ?_;refine sR ?_
    refine rC ?_;refine rQ iA ?_;refine rQ iL ?_;refine rQ (call_r hp rfl rfl (arg_e (arg_e (arg_e arg_nil))) (.inl rfl) (fun _ => rfl)) ?_;iterate 5 refine rC ?_
    refine nR ?_;refine rC ?_;refine rQ iA ?_;refine rQ iL ?_;refine rQ (call_r ha rfl rfl (arg_e arg_nil) (.inl rfl) (fun _ => rfl)) ?_;iterate 5 refine rC ?_
    refine nR ?_;refine rC ?_;refine rQ iA ?_;refine rQ iL ?_;refine rQ (call_r hu rfl rfl (arg_e arg_nil) (.inl rfl) (fun _ => rfl)) ?_;iterate 5 refine rC ?_
    refine nQ ?_;refine wc_draw (by kernel_rfl) ?_;refine dC [4] [] ?_;refine dQ [34] [] (conv_int (m := puV k) tab_ok rfl rfl rfl hw) ?_;refine dC [6] [] ?_;refine dC [8] [] ?_
    refine dQ [35, 36, 37] [] iS ?_;refine dC [3] [] ?_;refine dC [39] [] ?_;refine dreg_onq [40, 5] [] rfl rfl rfl rfl (step_C tab_ok (fun K hk => hk)) ?_;refine dreg_onq [40, 41] [] rfl rfl rfl rfl (eql_er Tryz.underlying122 rfl) ?_
    refine dQ [40, 42] [] iU ?_;refine dC [43] [] ?_;refine dreg_offq [44, 7] rfl rfl rfl rfl ?_;refine dreg_offq [44, 45] rfl rfl rfl rfl ?_;refine dQ [44, 46] [] iG ?_
    refine dreg_s [2, 38] [64] (store_row tab_ok rfl rfl rfl ⟨_, ⟨rfl, rfl, rfl⟩, rfl⟩ rfl) ?_;refine dC [47] [] ?_;refine dreg_end (by kernel_rfl) ?_;refine seq_n ?_
    refine wc_ret ?_
    exact ⟨trivial, _, rfl, [], lf⟩
  · refine sR ?_;refine rN ?_;refine rC ?_;refine nQ ?_;refine sR ?_;refine rC ?_;refine rQ iE ?_;refine rC ?_;refine nS ?_;refine wG ?_;refine kS ?_;refine sR ?_
    refine rC ?_;refine rQ iA ?_;refine rQ iL ?_;refine rQ (call_r hp rfl rfl (arg_e (arg_e (arg_e arg_nil))) (.inl rfl) (fun _ => rfl)) ?_;iterate 5 refine rC ?_
    refine nR ?_;refine rC ?_;refine rQ iA ?_;refine rQ iL ?_;refine rQ (call_r ha rfl rfl (arg_e arg_nil) (.inl rfl) (fun _ => rfl)) ?_;iterate 5 refine rC ?_
    refine nR ?_;refine rC ?_;refine rQ iA ?_;refine rQ iL ?_;refine rQ (call_r hu rfl rfl (arg_e arg_nil) (.inl rfl) (fun _ => rfl)) ?_;iterate 5 refine rC ?_
    refine nQ ?_;refine wc_draw (by kernel_rfl) ?_;refine dC [4] [] ?_;refine dQ [34] [] (conv_int (m := puV k) tab_ok rfl rfl rfl hw) ?_;refine dC [6] [] ?_;refine dC [8] [] ?_
    refine dQ [35, 36, 37] [] iS ?_;refine dC [3] [] ?_;refine dC [39] [] ?_;refine dreg_onq [40, 5] [] rfl rfl rfl rfl (step_C tab_ok (fun K hk => hk)) ?_;refine dreg_onq [40, 41] [] rfl rfl rfl rfl (eql_er Tryz.underlying122 rfl) ?_
    refine dQ [40, 42] [] iU ?_;refine dC [43] [] ?_;refine dreg_offq [44, 7] rfl rfl rfl rfl ?_;refine dreg_offq [44, 45] rfl rfl rfl rfl ?_;refine dQ [44, 46] [] iG ?_
    refine dreg_s [2, 38] [64] (store_row tab_ok rfl rfl rfl ⟨_, ⟨rfl, rfl, rfl⟩, rfl⟩ rfl) ?_;refine dC [47] [] ?_;refine dreg_end (by kernel_rfl) ?_;refine seq_n ?_
    refine wc_ret ?_
    exact ⟨trivial, _, rfl, [], lf⟩
  · refine sR ?_;refine rN ?_;refine rC ?_;refine nQ ?_;refine sR ?_;refine rC ?_;refine rQ iE ?_;refine rC ?_;refine nS ?_;refine wG ?_;refine kS ?_;refine sR ?_
    refine rC ?_;refine rQ iA ?_;refine rQ iL ?_;refine rQ (call_r hp rfl rfl (arg_e (arg_e (arg_e arg_nil))) (.inl rfl) (fun _ => rfl)) ?_;iterate 5 refine rC ?_
    refine nR ?_;refine rC ?_;refine rQ iA ?_;refine rQ iL ?_;refine rQ (call_r ha rfl rfl (arg_e arg_nil) (.inl rfl) (fun _ => rfl)) ?_;iterate 5 refine rC ?_
    refine nR ?_;refine rC ?_;refine rQ iA ?_;refine rQ iL ?_;refine rQ (call_r hu rfl rfl (arg_e arg_nil) (.inl rfl) (fun _ => rfl)) ?_;iterate 5 refine rC ?_
    refine nQ ?_;refine wc_draw (by kernel_rfl) ?_;refine dC [4] [] ?_;refine dQ [34] [] (conv_int (m := puV k) tab_ok rfl rfl rfl hw) ?_;refine dC [6] [] ?_;refine dC [8] [] ?_
    refine dQ [35, 36, 37] [] iS ?_;refine dC [3] [] ?_;refine dC [39] [] ?_;refine dreg_onq [40, 5] [] rfl rfl rfl rfl (step_C tab_ok (fun K hk => hk)) ?_;refine dreg_onq [40, 41] [] rfl rfl rfl rfl (eql_nilI Tryz.underlying122 rfl) ?_
    refine dQ [40, 42] [] iU ?_;refine dC [43] [] ?_;refine dreg_onq [44, 7] [] rfl rfl rfl rfl (step_C tab_ok (fun K hk => hk)) ?_;refine dreg_onq [44, 45] [] rfl rfl rfl rfl (eql_er Tryz.underlying122 rfl) ?_
    refine dQ [44, 46] [] iU ?_;refine dreg_s [2, 38] [64] (store_row tab_ok rfl rfl rfl ⟨_, ⟨rfl, rfl, rfl⟩, rfl⟩ rfl) ?_;refine dC [47] [] ?_;refine dreg_end (by kernel_rfl) ?_
    refine seq_n ?_;refine wc_ret ?_
    exact ⟨trivial, _, rfl, [], lf⟩
  · refine sR ?_;refine rN ?_;refine rC ?_;refine nQ ?_;refine sR ?_;refine rC ?_;refine rQ iE ?_;refine rC ?_;refine nS ?_;refine wG ?_;refine kS ?_;refine sR ?_
    refine rC ?_;refine rQ iA ?_;refine rQ iL ?_;refine rQ (call_r hp rfl rfl (arg_e (arg_e (arg_e arg_nil))) (.inl rfl) (fun _ => rfl)) ?_;iterate 5 refine rC ?_
    refine nR ?_;refine rC ?_;refine rQ iA ?_;refine rQ iL ?_;refine rQ (call_r ha rfl rfl (arg_e arg_nil) (.inl rfl) (fun _ => rfl)) ?_;iterate 5 refine rC ?_
    refine nR ?_;refine rC ?_;refine rQ iA ?_;refine rQ iL ?_;refine rQ (call_r hu rfl rfl (arg_e arg_nil) (.inl rfl) (fun _ => rfl)) ?_;iterate 5 refine rC ?_
    refine nQ ?_;refine wc_draw (by kernel_rfl) ?_;refine dC [4] [] ?_;refine dQ [34] [] (conv_int (m := puV k) tab_ok rfl rfl rfl hw) ?_;refine dC [6] [] ?_;refine dC [8] [] ?_
    refine dQ [35, 36, 37] [] iS ?_;refine dC [3] [] ?_;refine dC [39] [] ?_;refine dreg_onq [40, 5] [] rfl rfl rfl rfl (step_C tab_ok (fun K hk => hk)) ?_;refine dreg_onq [40, 41] [] rfl rfl rfl rfl (eql_nilI Tryz.underlying122 rfl) ?_
    refine dQ [40, 42] [] iU ?_;refine dC [43] [] ?_;refine dreg_onq [44, 7] [] rfl rfl rfl rfl (step_C tab_ok (fun K hk => hk)) ?_;refine dreg_onq [44, 45] [] rfl rfl rfl rfl (eql_nilI Tryz.underlying122 rfl) ?_
    refine dQ [44, 46] [] iU ?_;refine dreg_s [2, 38] [64] (store_row tab_ok rfl rfl rfl ⟨_, ⟨rfl, rfl, rfl⟩, rfl⟩ rfl) ?_;refine dC [47] [] ?_;refine dreg_end (by kernel_rfl) ?_
    refine seq_n ?_;refine wc_ret ?_
    exact ⟨trivial, _, rfl, [], lf⟩
def opW (w : List (List UInt8)) : POp × Bool := match w with
  | [k, i, d] => (opV k i d, opOk k i d)
  | _ => (opNil, false)
theorem operation_is (w : List (List UInt8)) (hw : ∀ x ∈ w, x.length ≤ 1048576) : FnIs Tryz.prog 127 [.d (.arr 1 strD w)] [] (opR (opW w).1 (opW w).2) [] := by
  by_cases h3 : w.length = 3
  · obtain ⟨k, i, d, rfl⟩ : ∃ k i d, w = [k, i, d] := by
      match w, h3 with
      | [k, i, d], _ => exact ⟨k, i, d, rfl⟩
    have hk := hw k (by simp)
    have hi := hw i (by simp)
    exact operation_full k i d (by omega) (by omega) (hw d (by simp)) _ _ _ rfl rfl rfl
  · have := operation_short w h3
    rwa [show opW w = (opNil, false) by
      unfold opW
      split
      · exact absurd rfl h3
      · rfl]
end Go.Proofs.YtmojbghcngdkpaaGreatDoor

namespace Go.Proofs.YtmojbghcngdkpaaGreatDoor
open Go.Eng Go.Plain
set_option maxHeartbeats 4000000
set_option maxRecDepth 20000
attribute [local irreducible] WC RegS RegD SeqQ BlkQ ScoQ RegK CutK Sat SatN FnIs LoopQ StepIs OpIs
theorem concat_as (ls : List (List (List UInt8))) (m : List (List UInt8)) (he : ls.flatten = m) (hp : 0 < m.length) (hL : m.length ≤ 1048576) (hn : ls.length ≤ 1000000) : FnIs Tryz.prog 128 [.d (.arr 1 encWs ls)] [] (.d (.arr 1 strD m)) [] := by
  have := concat_is ls (by rw [he]; exact hp) (by rw [he]; exact hL) hn
  rw [he] at this
  exact this.freeze_out 64 _ rfl (Frz.own rfl) trivial
theorem reader1_is (w : List (List UInt8)) (hw : ∀ x ∈ w, x.length ≤ 1048576) (hl : w.length ≤ 1048573) : FnIs Tryz.prog 126 [.d (.arr 1 strD w)] [] (opR (opW ([49] :: (w ++ [[45]]))).1 (opW ([49] :: (w ++ [[45]]))).2) [] := by
  have hc := concat_as [[[49]], w, [[45]]] ([49] :: (w ++ [[45]])) (by simp) (by simp) (by simp; omega) (by simp)
  have ho := operation_is ([49] :: (w ++ [[45]])) (by
    intro x hx
    rcases List.mem_cons.1 hx with rfl | hx
    · decide
    · rcases List.mem_append.1 hx with hx | hx
      · exact hw x hx
      · rw [List.mem_singleton.1 hx]; decide)
  refine fnIs_of tab_ok Tryz.func126 rfl rfl rfl ?_;refine sR ?_;refine rN ?_;refine rC ?_;refine nR ?_;refine reg_new (build_slice (s := 1) tab_ok rfl rfl rfl rfl rfl rfl rfl rfl) rfl ?_
  refine rC ?_;refine reg_new (build_slice (s := 1) tab_ok rfl rfl rfl rfl rfl rfl rfl rfl) rfl ?_;refine reg_freeze (env' := [(4, _), (2, _), (5, _), (6, _)]) (h' := [(64, some _), (96, some _)]) 80 _ rfl ⟨⟨_, rfl, Frz.lits1 (enc := strD) [49] rfl rfl⟩, ⟨_, rfl, .refl _⟩, ⟨_, rfl, .refl _⟩, ⟨_, rfl, .refl _⟩, trivial⟩ ⟨⟨rfl, _, rfl, .refl _⟩, ⟨rfl, _, rfl, .refl _⟩, trivial⟩ ?_
  refine reg_freeze (env' := [(6, _), (2, _), (4, _), (5, _)]) (h' := [(64, some _)]) 96 _ rfl ⟨⟨_, rfl, Frz.lits1 (enc := strD) [45] rfl rfl⟩, ⟨_, rfl, .refl _⟩, ⟨_, rfl, .refl _⟩, ⟨_, rfl, .refl _⟩, trivial⟩ ⟨⟨rfl, _, rfl, .refl _⟩, trivial⟩ ?_
  refine reg_new (build_slice (s := 1) tab_ok rfl rfl rfl rfl rfl rfl rfl rfl) rfl ?_;refine reg_freeze (env' := [(7, _), (2, _)]) (h' := [(64, some _)]) 104 _ rfl ⟨⟨_, rfl, Frz.litsN (t := 99) (s := 1) (m := 3) (ex := true) (enc := encWs) [[[49]], w, [[45]]] rfl (fun _ _ => rfl)⟩, ⟨_, rfl, .refl _⟩, trivial⟩ ⟨⟨rfl, _, rfl, .refl _⟩, trivial⟩ ?_
  refine rQ (call_r hc rfl rfl (arg_e arg_nil) (.inl rfl) (fun _ => rfl)) ?_;refine rQ (call_r ho rfl rfl (arg_e arg_nil) (.inl rfl) (fun _ => rfl)) ?_;iterate 2 refine rC ?_
  refine rW ?_;refine rC ?_;refine nS ?_;refine wc_ret ?_
  exact ⟨trivial, _, rfl, [], lf⟩
theorem reader2_is (w : List (List UInt8)) (hw : ∀ x ∈ w, x.length ≤ 1048576) (hl : w.length ≤ 1048573) : FnIs Tryz.prog 129 [.d (.arr 1 strD w)] [] (opR (opW ([50] :: w)).1 (opW ([50] :: w)).2) [] := by
  have hc := concat_as [[[50]], w] ([50] :: w) (by simp) (by simp) (by simp; omega) (by simp)
  have ho := operation_is ([50] :: w) (by
    intro x hx
    simp only [List.mem_cons] at hx
    rcases hx with rfl | hx
    · decide
    · exact hw x hx)
  refine fnIs_of tab_ok Tryz.func129 rfl rfl rfl ?_;refine sR ?_;refine rN ?_;refine rC ?_;refine nR ?_;refine reg_new (build_slice (s := 1) tab_ok rfl rfl rfl rfl rfl rfl rfl rfl) rfl ?_
  refine rC ?_;refine reg_freeze (env' := [(4, _), (2, _), (5, _)]) (h' := [(64, some _)]) 80 _ rfl ⟨⟨_, rfl, Frz.lits1 (enc := strD) [50] rfl rfl⟩, ⟨_, rfl, .refl _⟩, ⟨_, rfl, .refl _⟩, trivial⟩ ⟨⟨rfl, _, rfl, .refl _⟩, trivial⟩ ?_
  refine reg_new (build_slice (s := 1) tab_ok rfl rfl rfl rfl rfl rfl rfl rfl) rfl ?_;refine reg_freeze (env' := [(6, _), (2, _)]) (h' := [(64, some _)]) 96 _ rfl ⟨⟨_, rfl, Frz.lits2 (enc := encWs) [[50]] w rfl rfl rfl rfl⟩, ⟨_, rfl, .refl _⟩, trivial⟩ ⟨⟨rfl, _, rfl, .refl _⟩, trivial⟩ ?_
  refine rQ (call_r hc rfl rfl (arg_e arg_nil) (.inl rfl) (fun _ => rfl)) ?_;refine rQ (call_r ho rfl rfl (arg_e arg_nil) (.inl rfl) (fun _ => rfl)) ?_;iterate 2 refine rC ?_
  refine rW ?_;refine rC ?_;refine nS ?_;refine wc_ret ?_
  exact ⟨trivial, _, rfl, [], lf⟩
theorem reader3_is (w : List (List UInt8)) (hw : ∀ x ∈ w, x.length ≤ 1048576) (hl : w.length ≤ 1048573) : FnIs Tryz.prog 130 [.d (.arr 1 strD w)] [] (opR (opW ([51] :: [48] :: [45] :: w)).1 (opW ([51] :: [48] :: [45] :: w)).2) [] := by
  have hc := concat_as [[[51], [48], [45]], w] ([51] :: [48] :: [45] :: w) (by simp) (by simp) (by simp; omega) (by simp)
  have ho := operation_is ([51] :: [48] :: [45] :: w) (by
    intro x hx
    simp only [List.mem_cons] at hx
    rcases hx with rfl | rfl | rfl | hx
    · decide
    · decide
    · decide
    · exact hw x hx)
  refine fnIs_of tab_ok Tryz.func130 rfl rfl rfl ?_;refine sR ?_;refine rN ?_;refine rC ?_;refine nR ?_;refine reg_new (build_slice (s := 1) tab_ok rfl rfl rfl rfl rfl rfl rfl rfl) rfl ?_
  refine rC ?_;refine reg_freeze (env' := [(4, _), (2, _), (5, _)]) (h' := [(64, some _)]) 80 _ rfl ⟨⟨_, rfl, Frz.litsN (t := 9) (s := 1) (m := 3) (ex := true) (enc := strD) [[51], [48], [45]] rfl (fun _ _ => rfl)⟩, ⟨_, rfl, .refl _⟩, ⟨_, rfl, .refl _⟩, trivial⟩ ⟨⟨rfl, _, rfl, .refl _⟩, trivial⟩ ?_
  refine reg_new (build_slice (s := 1) tab_ok rfl rfl rfl rfl rfl rfl rfl rfl) rfl ?_;refine reg_freeze (env' := [(6, _), (2, _)]) (h' := [(64, some _)]) 96 _ rfl ⟨⟨_, rfl, Frz.lits2 (enc := encWs) [[51], [48], [45]] w rfl rfl rfl rfl⟩, ⟨_, rfl, .refl _⟩, trivial⟩ ⟨⟨rfl, _, rfl, .refl _⟩, trivial⟩ ?_
  refine rQ (call_r hc rfl rfl (arg_e arg_nil) (.inl rfl) (fun _ => rfl)) ?_;refine rQ (call_r ho rfl rfl (arg_e arg_nil) (.inl rfl) (fun _ => rfl)) ?_;iterate 2 refine rC ?_
  refine rW ?_;refine rC ?_;refine nS ?_;refine wc_ret ?_
  exact ⟨trivial, _, rfl, [], lf⟩
end Go.Proofs.YtmojbghcngdkpaaGreatDoor

namespace Go.Eng
open Go.RowKit
section
variable {P : Program} {T : Tab} {env : Env} {h : Upds} {n : Nat}
theorem insert_new {t kt et : TypeId} {κ : Type} [DecidableEq κ] {enc : κ → D} {m r : Nat} {x y z : Operand} {k : κ} {l : List (κ × AV)} {v : AV} (K : KeyTy P kt enc m) (ht : P.underlying t = some (.map kt et))
    (hx : evalA env x = some (.mapr r)) (hy : evalA env y = some (.d (enc k))) (hz : evalA env z = some v) (hr : lookH h r = some (.mo (mapC enc l))) (hf : findC k l 0 = none) :
    StepIs P (.insert t x y z) env h n none [(r, some (.mo (mapC enc (l ++ [(k, v)]))))] := .of_comes fun C G st σ w a o ho hA hd hst hn => by
  have h1 := (ev_sound hst (hA.ev hx)).1
  have h2 := (ev_sound hst (hA.ev hy)).1
  obtain ⟨h3, h4⟩ := ev_sound hst (hA.ev hz)
  have hrow := hA.row _ _ hr
  obtain ⟨b, c, hs, hux⟩ := RelV.mapr.1 h1
  obtain ⟨b', es, hb1, hb2, hb3, hb4⟩ := hst.rows r _ hrow
  rw [hs] at hb2
  cases hb2
  have hl := (mapC_rel l _).1 hb4
  have hin : (mapC enc l).within G := (hst.rowsG r _ hrow).2
  have hfd := K.found h2 hl
  rw [hf] at hfd
  have hst' := hst.writeObj (o' := .map (es.push { key := a.eval y, val := a.eval z, born := es.size }) (es.size + 1)) (row := .mo (mapC enc (l ++ [(k, v)]))) hrow hs hb3 rfl
    ((mapC_within _).2 fun p hp => by
      rcases List.mem_append.1 hp with hp | hp
      · exact (mapC_within l).1 hin p hp
      · rw [List.mem_singleton.1 hp]; exact h4)
    (fun w' ht' hh' => ⟨b, es.push { key := a.eval y, val := a.eval z, born := es.size }, fun i e he => by
      rw [Array.getElem?_push] at he
      split at he
      · rename_i hi; subst hi; cases he; rfl
      · exact hb1 i e he, hs, by rw [Array.size_push]; exact hh', (mapC_rel _ _).2 (by
        rw [Array.toList_push]
        exact EntRel.snoc (RelV.carry (G := G) ht' trivial h2) (RelV.carry (G := G) ht' h4 h3) l _ (EntRel.mono ht' hin hl))⟩)
  refine ⟨none, _, .skip, undef, { w with heap := w.heap.setIfInBounds b (.map (es.push { key := a.eval y, val := a.eval z, born := es.size }) (es.size + 1)) }, σ, G, ⟨rfl, rfl⟩, ?_, .inr ⟨rfl, rfl⟩, ?_, fun _ h => h, fun _ h => .inl h⟩
  · have hget : (getObj b).run P w = .ok (.map es es.size) w := by simp [getObj, Sem.run, hb3]
    have hset := run_setObj P w b (.map (es.push { key := a.eval y, val := a.eval z, born := es.size }) (es.size + 1)) hb3
    simp only [execOp, ho, Instr.mapUpdate, hux, Sem.run_bind, run_underlying ht, hget, Result.andThen_ok, K.check h2, hfd, hset, Sem.run_pure]
  · rw [St.put_upd]
    exact hst'.set hd (v := none) (undef_rel _ _ _) trivial
end
end Go.Eng

namespace Go.Proofs.YtmojbghcngdkpaaGreatDoor
open Go.Eng Go.Plain
set_option maxHeartbeats 4000000
set_option maxRecDepth 20000
attribute [local irreducible] WC RegS RegD SeqQ BlkQ ScoQ RegK CutK Sat SatN FnIs LoopQ StepIs OpIs
abbrev fnA (f : Nat) : AV := .fn (.func f) .anil .anil
def knownL : List (List UInt8 × AV) := [(sRead, fnA 126), (sWrite, fnA 129), (sFlush, fnA 130), (sOp, fnA 127)]
theorem key_str : KeyTy Tryz.prog 9 (fun l : List UInt8 => strD l) 1 := keyTy_string Tryz.underlying9
theorem readers_is : FnIs Tryz.prog 92 [] [] (.mapr 64) [(64, .mo (mapC strD knownL))] := by
  refine fnIs_of tab_ok Tryz.func92 rfl rfl rfl ?_;refine sR ?_;refine rC ?_;refine nR ?_;refine reg_new (make_map) rfl ?_;refine reg_do rfl (insert_new (κ := List UInt8) (enc := strD) (l := knownL.take 0) (k := sRead) key_str Tryz.underlying154 rfl rfl rfl rfl rfl) rfl rfl ?_
  refine reg_do rfl (insert_new (κ := List UInt8) (enc := strD) (l := knownL.take 1) (k := sWrite) key_str Tryz.underlying154 rfl rfl rfl rfl rfl) rfl rfl ?_;refine reg_do rfl (insert_new (κ := List UInt8) (enc := strD) (l := knownL.take 2) (k := sFlush) key_str Tryz.underlying154 rfl rfl rfl rfl rfl) rfl rfl ?_
  refine reg_do rfl (insert_new (κ := List UInt8) (enc := strD) (l := knownL.take 3) (k := sOp) key_str Tryz.underlying154 rfl rfl rfl rfl rfl) rfl rfl ?_;iterate 2 refine rC ?_
  refine nS ?_;refine wc_ret ?_
  exact ⟨trivial, [(64, some 72)], .of rfl rfl rfl rfl rfl ⟨⟨_, rfl, AVLe.of_eq rfl⟩, rfl, trivial⟩ ⟨⟨rfl, rfl, _, rfl, .refl _⟩, trivial⟩⟩
end Go.Proofs.YtmojbghcngdkpaaGreatDoor

namespace Go.Eng
open Go.RowKit
section
variable {P : Program} {T : Tab} {env : Env} {h : Upds} {n : Nat}
theorem slice_clip_arr (hT : TabOk P T) {t e : Nat} {re : TyR} {x i j : Operand} {α : Type} {s : Nat} {enc : α → D} {xs : List α} {k k' : IntKind} (ht : tdesc T t = some (.slice e)) (he : lk T e = some re)
    (hx : evalA env x = some (.d (.arr s enc xs))) (hi : evalA env i = some (.int k xs.length)) (hj : evalA env j = some (.int k' xs.length)) : StepIs P (.slice t x none (some i) (some j)) env h n (some (.d (.arx s enc xs))) [] := .of_comes fun C G st σ w a o ho hA hdst hst hn => by
  obtain ⟨ud, hud, hdd⟩ := tdesc_und hT ht
  cases hdd
  obtain ⟨hx1, _⟩ := ev_sound hst (hA.ev hx)
  obtain ⟨hi1, _⟩ := RelV.sc.1 (ev_sound hst (hA.ev hi)).1
  obtain ⟨hj1, _⟩ := RelV.sc.1 (ev_sound hst (hA.ev hj)).1
  have hsz := (hT e re he).run_size (P := P)
  rcases RelV.arr.1 hx1 with ⟨rfl, hv⟩ | ⟨ad, c, hv, hc1, hc2, f, hf⟩
  · refine .quiet (u := .slice none 0 0) hst hdst ⟨rfl, rfl⟩ ?_ (RelV.arx.2 (.inl ⟨rfl, _, rfl⟩)) trivial
    simp [execOp, ho, Instr.sliceAt, Instr.slice, hv, hi1, hj1, run_underlying hud, Instr.sliceBounds, Instr.sliceBound, asIntOf, hsz, Sem.run_bind, Sem.run_pure, Result.andThen_ok]
  · refine .quiet (u := .slice (some ad) xs.length xs.length) hst hdst ⟨rfl, rfl⟩ ?_ (RelV.arx.2 (.inr ⟨ad, rfl, by omega, f, hf⟩)) trivial
    have hle : (xs.length : Int) ≤ (c : Int) := by omega
    simp [execOp, ho, Instr.sliceAt, Instr.slice, hv, hi1, hj1, run_underlying hud, Instr.sliceBounds, Instr.sliceBound, asIntOf, hsz, Sem.run_bind, Sem.run_pure, Result.andThen_ok, hc1, Addr.add_zero']
end
end Go.Eng

namespace Go.Proofs.YtmojbghcngdkpaaGreatDoor
open Go.Eng Go.Plain
set_option maxHeartbeats 4000000
attribute [local irreducible] WC RegS RegD SeqQ BlkQ ScoQ RegK CutK Sat SatN FnIs LoopQ StepIs OpIs
theorem clone_ne (l : List POp) (hp : 0 < l.length) (hlen : l.length ≤ 1048576) : FnIs Tryz.prog 96 [.d (encP l)] [] (.own 64 0 l.length 3 none) [(64, .ds 50 3 false encPOp l)] := by
  refine fnIs_of tab_ok Tryz.func96 rfl rfl rfl ?_;refine sR ?_;refine rC ?_;refine nQ ?_;refine sR ?_;refine rC ?_;refine rQ (eql_nil tab_ok rfl rfl rfl hp) ?_;refine nS ?_
  refine wG ?_;refine kS ?_;refine sR ?_;refine rQ (build_empty tab_ok rfl rfl) ?_;refine rC ?_;refine reg_new (append_empty_arr tab_ok rfl rfl rfl rfl rfl (.inl rfl) rfl hp hlen rfl) rfl ?_
  refine rC ?_;refine nS ?_;refine wc_ret ?_
  exact ⟨trivial, [(64, some 104)], .of rfl rfl rfl rfl rfl ⟨⟨_, rfl, AVLe.of_eq rfl⟩, rfl, trivial⟩ ⟨⟨rfl, rfl, _, rfl, .refl _⟩, trivial⟩⟩
theorem clone_e : FnIs Tryz.prog 96 [.d (encP [])] [] (.d (encP [])) [] := by
  refine FnIs.split_arr ?_ ?_
  · refine fnIs_of tab_ok Tryz.func96 rfl rfl rfl ?_;refine sR ?_;refine rC ?_;refine nQ ?_;refine sR ?_;refine rC ?_;refine rQ (eql_nn tab_ok rfl rfl rfl) ?_;refine nS ?_
    refine wV ?_;refine sR ?_;refine rC ?_;refine nS ?_;refine wc_ret ?_;refine seq_r ?_
    exact ⟨trivial, [], .of rfl rfl rfl rfl rfl ⟨⟨_, rfl, nil_arr _ _⟩, rfl, trivial⟩ trivial⟩
  · rintro ⟨a, c⟩
    refine fnIs_of tab_ok Tryz.func96 rfl rfl rfl ?_;refine sR ?_;refine rC ?_;refine nQ ?_;refine sR ?_;refine rC ?_;refine rQ (eql_snil tab_ok rfl rfl rfl) ?_;refine nS ?_
    refine wG ?_;refine kS ?_;refine sR ?_;refine rQ (build_empty tab_ok rfl rfl) ?_;refine rC ?_;refine rQ (append_e_e tab_ok rfl rfl rfl rfl) ?_;refine rC ?_;refine nS ?_
    refine wc_ret ?_
    exact ⟨trivial, [], .of rfl rfl rfl rfl rfl ⟨⟨_, rfl, AVLe.empty_arr _ _⟩, rfl, trivial⟩ trivial⟩
theorem clone_is (l : List POp) (hlen : l.length ≤ 1048576) : FnIs Tryz.prog 96 [.d (encP l)] [] (.d (encP l)) [] := by
  cases l with
  | nil => exact clone_e
  | cons a l => exact (clone_ne (a :: l) (by simp) hlen).freeze_out 64 _ rfl (Frz.own rfl) trivial
abbrev encXP (p : List POp) : D := .arx 3 encPOp p
abbrev encXL (l : List (List POp)) : D := .arr 1 encXP l
theorem clones_ne (l : List (List POp)) (hp : 0 < l.length) (hlen : l.length ≤ 1048576) : FnIs Tryz.prog 98 [.d (encXL l)] [] (.own 64 0 l.length 1 none) [(64, .ds 77 1 false encXP l)] := by
  refine fnIs_of tab_ok Tryz.func98 rfl rfl rfl ?_;refine sR ?_;refine rC ?_;refine nQ ?_;refine sR ?_;refine rC ?_;refine rQ (eql_nil tab_ok rfl rfl rfl hp) ?_;refine nS ?_
  refine wG ?_;refine kS ?_;refine sR ?_;refine rQ (build_empty tab_ok rfl rfl) ?_;refine rC ?_;refine reg_new (append_empty_arr tab_ok rfl rfl rfl rfl rfl (.inl rfl) rfl hp hlen rfl) rfl ?_
  refine rC ?_;refine nS ?_;refine wc_ret ?_
  exact ⟨trivial, [(64, some 104)], .of rfl rfl rfl rfl rfl ⟨⟨_, rfl, AVLe.of_eq rfl⟩, rfl, trivial⟩ ⟨⟨rfl, rfl, _, rfl, .refl _⟩, trivial⟩⟩
theorem clones_e : FnIs Tryz.prog 98 [.d (encXL [])] [] (.d (encXL [])) [] := by
  refine FnIs.split_arr ?_ ?_
  · refine fnIs_of tab_ok Tryz.func98 rfl rfl rfl ?_;refine sR ?_;refine rC ?_;refine nQ ?_;refine sR ?_;refine rC ?_;refine rQ (eql_nn tab_ok rfl rfl rfl) ?_;refine nS ?_
    refine wV ?_;refine sR ?_;refine rC ?_;refine nS ?_;refine wc_ret ?_;refine seq_r ?_
    exact ⟨trivial, [], .of rfl rfl rfl rfl rfl ⟨⟨_, rfl, nil_arr _ _⟩, rfl, trivial⟩ trivial⟩
  · rintro ⟨a, c⟩
    refine fnIs_of tab_ok Tryz.func98 rfl rfl rfl ?_;refine sR ?_;refine rC ?_;refine nQ ?_;refine sR ?_;refine rC ?_;refine rQ (eql_snil tab_ok rfl rfl rfl) ?_;refine nS ?_
    refine wG ?_;refine kS ?_;refine sR ?_;refine rQ (build_empty tab_ok rfl rfl) ?_;refine rC ?_;refine rQ (append_e_e tab_ok rfl rfl rfl rfl) ?_;refine rC ?_;refine nS ?_
    refine wc_ret ?_
    exact ⟨trivial, [], .of rfl rfl rfl rfl rfl ⟨⟨_, rfl, AVLe.empty_arr _ _⟩, rfl, trivial⟩ trivial⟩
theorem clones_is (l : List (List POp)) (hlen : l.length ≤ 1048576) : FnIs Tryz.prog 98 [.d (encXL l)] [] (.d (encXL l)) [] := by
  cases l with
  | nil => exact clones_e
  | cons a l => exact (clones_ne (a :: l) (by simp) hlen).freeze_out 64 _ rfl (Frz.own rfl) trivial
theorem clip_is (l : List POp) : FnIs Tryz.prog 95 [.d (encP l)] [] (.d (encXP l)) [] := by
  refine fnIs_of tab_ok Tryz.func95 rfl rfl rfl ?_;refine sR ?_;refine rC ?_;refine nR ?_;iterate 2 refine rC ?_
  refine rQ iE ?_;refine rC ?_;refine rQ iE ?_;refine rQ (slice_clip_arr tab_ok rfl rfl rfl rfl rfl) ?_;refine rC ?_;refine nS ?_;refine wc_ret ?_
  exact ⟨trivial, [], lf⟩
theorem clips_is (l : List (List POp)) : FnIs Tryz.prog 97 [.d (encXL l)] [] (.d (.arx 1 encXP l)) [] := by
  refine fnIs_of tab_ok Tryz.func97 rfl rfl rfl ?_;refine sR ?_;refine rC ?_;refine nR ?_;iterate 2 refine rC ?_
  refine rQ iE ?_;refine rC ?_;refine rQ iE ?_;refine rQ (slice_clip_arr tab_ok rfl rfl rfl rfl rfl) ?_;refine rC ?_;refine nS ?_;refine wc_ret ?_
  exact ⟨trivial, [], lf⟩
end Go.Proofs.YtmojbghcngdkpaaGreatDoor

namespace Go.Proofs.YtmojbghcngdkpaaGreatDoor
open Go.Eng Go.Plain
set_option maxHeartbeats 4000000
attribute [local irreducible] WC RegS RegD SeqQ BlkQ ScoQ RegK CutK Sat SatN FnIs LoopQ StepIs OpIs
theorem ixop_is {α : Type} (enc : α → D) (hsz : ∀ x, sizeOk tab 50 (.d (enc x)) = true) (p : α → Bool) (g : FuncId) (xs : List α) (hL : xs.length ≤ 1000000000) (hg : ∀ x ∈ xs, FnIs Tryz.prog g [.d (enc x)] [] (.bool (p x)) []) : FnIs Tryz.prog 122 [.d (.arr 3 enc xs), .fn (.func g) .anil .anil] [] (.int .i64 (idxF p xs)) [] := by
  refine fnIs_of tab_ok Tryz.func122 rfl rfl rfl ?_;refine sR ?_;refine rC ?_;refine nQ ?_;refine sR ?_;refine rC ?_;refine rQ iE ?_;refine rC ?_;refine nS ?_;refine wc_block ?_
  refine wc_inv (fun i : Nat => ⟨[(8, .int .i64 i), (7, .int .i64 xs.length), (1, .fn (.func g) .anil .anil), (0, .d (.arr 3 enc xs))], [], 72, Tryz.f122.ntmps, 64⟩) (fun i => i ≤ xs.length ∧ ∀ j, j < i → ∀ y, xs[j]? = some y → p y = false) (fun i => xs.length - i) 0 [] ⟨Nat.zero_le _, fun j hj => absurd hj (Nat.not_lt_zero _)⟩
    (.of rfl rfl rfl rfl rfl ⟨⟨_, rfl, .refl _⟩, rfl, ⟨_, rfl, .refl _⟩, rfl, ⟨_, rfl, .refl _⟩, rfl, ⟨_, rfl, .refl _⟩, rfl, trivial⟩ trivial) ?_
  rintro i ⟨hi, hno⟩
  refine wc_of ?_;refine sR ?_;refine rC ?_;refine nQ ?_
  refine wc_cond rfl (fun h2 => ?_) (fun h2 => ?_)
  · have hlt : i < xs.length := by have := of_decide_eq_true h2; omega
    obtain ⟨x, hx⟩ : ∃ u, xs[i]? = some u := ⟨_, List.getElem?_eq_getElem hlt⟩
    have hx' : xs[((i : Int)).toNat]? = some x := by rw [Int.toNat_natCast]; exact hx
    have hpx := hg x (List.mem_of_getElem? hx)
    have hs := hsz x
    cases hp : p x with
    | true =>
      refine kS ?_;refine wc_seq ?_;refine wc_block ?_;refine sR ?_;iterate 2 refine rC ?_
      refine nR ?_;iterate 3 refine rC ?_
      refine rQ (index_arr tab_ok rfl rfl rfl rfl rfl (by omega) hx') ?_;refine rQ (load_i tab_ok rfl hs) ?_;refine rQ (call_r hpx rfl rfl (arg_e arg_nil) (.inl rfl) (fun _ => rfl)) ?_
      refine nS ?_;refine wT ?_;refine sR ?_;iterate 2 refine rC ?_
      refine nS ?_;refine wc_ret ?_;refine blk_r ?_;refine seq_r ?_;refine loop_r ?_;refine blk_r ?_;refine seq_r ?_
      exact ⟨trivial, [], .of rfl rfl rfl rfl rfl ⟨⟨_, rfl, AVLe.of_eq (by rw [idxF_some hx hp hno]; rfl)⟩, rfl, trivial⟩ trivial⟩
    | false =>
      refine kS ?_;refine wc_seq ?_;refine wc_block ?_;refine sR ?_;iterate 2 refine rC ?_
      refine nR ?_;iterate 3 refine rC ?_
      refine rQ (index_arr tab_ok rfl rfl rfl rfl rfl (by omega) hx') ?_;refine rQ (load_i tab_ok rfl hs) ?_;refine rQ (call_r hpx rfl rfl (arg_e arg_nil) (.inl rfl) (fun _ => rfl)) ?_
      refine nS ?_;refine wF ?_;refine wc_skip ?_;refine blk_n ?_;refine seq_n ?_;refine wc_region ?_;refine rQ iD ?_;refine rC ?_;refine reg_nil ?_;refine loop_n (i + 1) [] ⟨hlt, fun j hj y hy => ?_⟩ (by omega) ?_
      · by_cases e : j = i
        · subst e
          rw [hx] at hy
          cases hy
          exact hp
        · exact hno j (by omega) y hy
      · exact .of rfl rfl rfl rfl rfl ⟨⟨_, rfl, .refl _⟩, rfl, ⟨_, rfl, .refl _⟩, rfl, ⟨_, rfl, .refl _⟩, rfl, ⟨_, rfl, .refl _⟩, rfl, trivial⟩ trivial
  · have he : i = xs.length := by have := of_decide_eq_false h2; omega
    refine wc_exit ?_;refine seq_x ?_;refine loop_x ?_;refine blk_x ?_;refine seq_n ?_;refine sR ?_;refine rC ?_;refine nS ?_;refine wc_ret ?_
    exact ⟨trivial, [], .of rfl rfl rfl rfl rfl ⟨⟨_, rfl, AVLe.of_eq (by
      rw [idxF_none fun j y hy => hno j (by have := (List.getElem?_eq_some_iff.1 hy).1; omega) y hy]
      rfl)⟩, rfl, trivial⟩ trivial⟩
theorem ixopc_is {α : Type} (enc : α → D) (hsz : ∀ x, sizeOk tab 50 (.d (enc x)) = true) (p : α → Bool) (g : FuncId) (xs : List α) (hL : xs.length ≤ 1000000000) (hg : ∀ x ∈ xs, FnIs Tryz.prog g [.d (enc x)] [] (.bool (p x)) []) : FnIs Tryz.prog 82 [.d (.arr 3 enc xs), .fn (.func g) .anil .anil] [] (.bool (xs.any p)) [] := by
  refine fnIs_of tab_ok Tryz.func82 rfl rfl rfl ?_;refine sR ?_;refine rC ?_;refine nR ?_;iterate 2 refine rC ?_
  refine rQ (call_r (ixop_is enc hsz p g xs hL hg) rfl rfl (arg_e (arg_fn arg_nil)) (.inl rfl) (fun _ => rfl)) ?_;iterate 2 refine rC ?_
  refine nS ?_;refine wc_ret ?_
  exact ⟨trivial, [], .of rfl rfl rfl rfl rfl ⟨⟨_, rfl, AVLe.of_eq (by rw [← idxF_any]; rfl)⟩, rfl, trivial⟩ trivial⟩
theorem ixp_is {α : Type} (enc : α → D) (hsz : ∀ x, sizeOk tab 77 (.d (enc x)) = true) (p : α → Bool) (g : FuncId) (xs : List α) (hL : xs.length ≤ 1000000000) (hg : ∀ x ∈ xs, FnIs Tryz.prog g [.d (enc x)] [] (.bool (p x)) []) : FnIs Tryz.prog 123 [.d (.arr 1 enc xs), .fn (.func g) .anil .anil] [] (.int .i64 (idxF p xs)) [] := by
  refine fnIs_of tab_ok Tryz.func123 rfl rfl rfl ?_;refine sR ?_;refine rC ?_;refine nQ ?_;refine sR ?_;refine rC ?_;refine rQ iE ?_;refine rC ?_;refine nS ?_;refine wc_block ?_
  refine wc_inv (fun i : Nat => ⟨[(8, .int .i64 i), (7, .int .i64 xs.length), (1, .fn (.func g) .anil .anil), (0, .d (.arr 1 enc xs))], [], 72, Tryz.f123.ntmps, 64⟩) (fun i => i ≤ xs.length ∧ ∀ j, j < i → ∀ y, xs[j]? = some y → p y = false) (fun i => xs.length - i) 0 [] ⟨Nat.zero_le _, fun j hj => absurd hj (Nat.not_lt_zero _)⟩
    (.of rfl rfl rfl rfl rfl ⟨⟨_, rfl, .refl _⟩, rfl, ⟨_, rfl, .refl _⟩, rfl, ⟨_, rfl, .refl _⟩, rfl, ⟨_, rfl, .refl _⟩, rfl, trivial⟩ trivial) ?_
  rintro i ⟨hi, hno⟩
  refine wc_of ?_;refine sR ?_;refine rC ?_;refine nQ ?_
  refine wc_cond rfl (fun h2 => ?_) (fun h2 => ?_)
  · have hlt : i < xs.length := by have := of_decide_eq_true h2; omega
    obtain ⟨x, hx⟩ : ∃ u, xs[i]? = some u := ⟨_, List.getElem?_eq_getElem hlt⟩
    have hx' : xs[((i : Int)).toNat]? = some x := by rw [Int.toNat_natCast]; exact hx
    have hpx := hg x (List.mem_of_getElem? hx)
    have hs := hsz x
    cases hp : p x with
    | true =>
      refine kS ?_;refine wc_seq ?_;refine wc_block ?_;refine sR ?_;iterate 2 refine rC ?_
      refine nR ?_;iterate 3 refine rC ?_
      refine rQ (index_arr tab_ok rfl rfl rfl rfl rfl (by omega) hx') ?_;refine rQ (load_i tab_ok rfl hs) ?_;refine rQ (call_r hpx rfl rfl (arg_e arg_nil) (.inl rfl) (fun _ => rfl)) ?_
      refine nS ?_;refine wT ?_;refine sR ?_;iterate 2 refine rC ?_
      refine nS ?_;refine wc_ret ?_;refine blk_r ?_;refine seq_r ?_;refine loop_r ?_;refine blk_r ?_;refine seq_r ?_
      exact ⟨trivial, [], .of rfl rfl rfl rfl rfl ⟨⟨_, rfl, AVLe.of_eq (by rw [idxF_some hx hp hno]; rfl)⟩, rfl, trivial⟩ trivial⟩
    | false =>
      refine kS ?_;refine wc_seq ?_;refine wc_block ?_;refine sR ?_;iterate 2 refine rC ?_
      refine nR ?_;iterate 3 refine rC ?_
      refine rQ (index_arr tab_ok rfl rfl rfl rfl rfl (by omega) hx') ?_;refine rQ (load_i tab_ok rfl hs) ?_;refine rQ (call_r hpx rfl rfl (arg_e arg_nil) (.inl rfl) (fun _ => rfl)) ?_
      refine nS ?_;refine wF ?_;refine wc_skip ?_;refine blk_n ?_;refine seq_n ?_;refine wc_region ?_;refine rQ iD ?_;refine rC ?_;refine reg_nil ?_;refine loop_n (i + 1) [] ⟨hlt, fun j hj y hy => ?_⟩ (by omega) ?_
      · by_cases e : j = i
        · subst e
          rw [hx] at hy
          cases hy
          exact hp
        · exact hno j (by omega) y hy
      · exact .of rfl rfl rfl rfl rfl ⟨⟨_, rfl, .refl _⟩, rfl, ⟨_, rfl, .refl _⟩, rfl, ⟨_, rfl, .refl _⟩, rfl, ⟨_, rfl, .refl _⟩, rfl, trivial⟩ trivial
  · have he : i = xs.length := by have := of_decide_eq_false h2; omega
    refine wc_exit ?_;refine seq_x ?_;refine loop_x ?_;refine blk_x ?_;refine seq_n ?_;refine sR ?_;refine rC ?_;refine nS ?_;refine wc_ret ?_
    exact ⟨trivial, [], .of rfl rfl rfl rfl rfl ⟨⟨_, rfl, AVLe.of_eq (by
      rw [idxF_none fun j y hy => hno j (by have := (List.getElem?_eq_some_iff.1 hy).1; omega) y hy]
      rfl)⟩, rfl, trivial⟩ trivial⟩
theorem ixpc_is {α : Type} (enc : α → D) (hsz : ∀ x, sizeOk tab 77 (.d (enc x)) = true) (p : α → Bool) (g : FuncId) (xs : List α) (hL : xs.length ≤ 1000000000) (hg : ∀ x ∈ xs, FnIs Tryz.prog g [.d (enc x)] [] (.bool (p x)) []) : FnIs Tryz.prog 84 [.d (.arr 1 enc xs), .fn (.func g) .anil .anil] [] (.bool (xs.any p)) [] := by
  refine fnIs_of tab_ok Tryz.func84 rfl rfl rfl ?_;refine sR ?_;refine rC ?_;refine nR ?_;iterate 2 refine rC ?_
  refine rQ (call_r (ixp_is enc hsz p g xs hL hg) rfl rfl (arg_e (arg_fn arg_nil)) (.inl rfl) (fun _ => rfl)) ?_;iterate 2 refine rC ?_
  refine nS ?_;refine wc_ret ?_
  exact ⟨trivial, [], .of rfl rfl rfl rfl rfl ⟨⟨_, rfl, AVLe.of_eq (by rw [← idxF_any]; rfl)⟩, rfl, trivial⟩ trivial⟩
end Go.Proofs.YtmojbghcngdkpaaGreatDoor

namespace Go.Proofs.YtmojbghcngdkpaaGreatDoor
open Go.Eng Go.Plain
set_option maxHeartbeats 4000000
attribute [local irreducible] WC RegS RegD SeqQ BlkQ ScoQ RegK CutK Sat SatN FnIs LoopQ StepIs OpIs
theorem long_op (o : POp) : FnIs Tryz.prog 83 [.d (encPOp o)] [] (.bool (decide (64 < o.data.length))) [] := by
  have e : decide ((64 : Int) < ((byI o.data).length : Int)) = decide (64 < o.data.length) := by rw [byI_len]; exact decide_eq_decide.2 (by omega)
  refine fnIs_of tab_ok Tryz.func83 rfl rfl rfl ?_;refine sR ?_;refine rN ?_;refine rC ?_;refine nR ?_;refine rC ?_;refine rQ iB ?_;refine rQ iE ?_;iterate 2 refine rC ?_
  refine nS ?_;refine wc_ret ?_
  exact ⟨trivial, [], .of rfl rfl rfl rfl rfl ⟨⟨_, rfl, AVLe.of_eq (congrArg (fun b => AV.bool b) e)⟩, rfl, trivial⟩ trivial⟩
theorem long_p (p : List POp) (hL : p.length ≤ 1000000000) : FnIs Tryz.prog 81 [.d (encP p)] [] (.bool (badP p)) [] := by
  have e : decide ((64 : Int) < (p.length : Int)) = decide (64 < p.length) := decide_eq_decide.2 (by omega)
  refine fnIs_of tab_ok Tryz.func81 rfl rfl rfl ?_
  cases h : decide ((64 : Int) < (p.length : Int)) with
  | true =>
    rw [h] at e
    refine sR ?_;refine rC ?_;refine nR ?_;refine rC ?_;refine rQ iE ?_;iterate 2 refine rC ?_
    iterate 2 refine rS ?_
    refine rQ iT ?_;refine rC ?_;refine nS ?_;refine wc_ret ?_
    exact ⟨trivial, [], .of rfl rfl rfl rfl rfl ⟨⟨_, rfl, AVLe.of_eq (by rw [badP, ← e]; rfl)⟩, rfl, trivial⟩ trivial⟩
  | false =>
    rw [h] at e
    refine sR ?_;refine rC ?_;refine nR ?_;refine rC ?_;refine rQ iE ?_;iterate 2 refine rC ?_
    refine rO ?_;refine rC ?_;refine rO ?_;refine rQ (call_r (ixopc_is encPOp (fun _ => rfl) (fun o => decide (64 < o.data.length)) _ p hL (fun o _ => long_op o)) rfl rfl (arg_e (arg_fn arg_nil)) (.inl rfl) (fun _ => rfl)) ?_
    refine rQ iF ?_;refine rC ?_;refine nS ?_;refine wc_ret ?_
    exact ⟨trivial, [], .of rfl rfl rfl rfl rfl ⟨⟨_, rfl, AVLe.of_eq (by rw [badP, ← e]; rfl)⟩, rfl, trivial⟩ trivial⟩
theorem check_is (l : List (List POp)) (hL : l.length ≤ 1000000000) (hP : ∀ p ∈ l, p.length ≤ 1000000000) : FnIs Tryz.prog 38 [.d (encPL l)] [] (.int .i64 (chkP l)) [] := by
  refine fnIs_of tab_ok Tryz.func38 rfl rfl rfl ?_
  cases h : decide ((8 : Int) < (l.length : Int)) with
  | true =>
    have h8 : 8 < l.length := by have := of_decide_eq_true h; omega
    refine sR ?_;refine rC ?_;refine nR ?_;refine rC ?_;refine nQ ?_;refine sR ?_;refine rC ?_;refine rQ iE ?_;iterate 2 refine rC ?_
    iterate 3 refine rS ?_
    refine rQ iT ?_;refine nS ?_;refine wV ?_;refine sR ?_;refine rC ?_;refine nS ?_;refine wc_ret ?_;refine seq_r ?_
    exact ⟨trivial, [], .of rfl rfl rfl rfl rfl ⟨⟨_, rfl, AVLe.of_eq (by rw [chkP, if_pos h8]; rfl)⟩, rfl, trivial⟩ trivial⟩
  | false =>
    have h8 : ¬ 8 < l.length := by have := of_decide_eq_false h; omega
    cases hb : l.any badP with
    | true =>
      refine sR ?_;refine rC ?_;refine nR ?_;refine rC ?_;refine nQ ?_;refine sR ?_;refine rC ?_;refine rQ iE ?_;iterate 2 refine rC ?_
      refine rO ?_;refine rC ?_;refine rO ?_;refine rC ?_;refine rO ?_;refine rQ (call_r (ixpc_is encP (fun _ => rfl) badP _ l hL (fun p hp => long_p p (hP p hp))) rfl rfl (arg_e (arg_fn arg_nil)) (.inl rfl) (fun _ => rfl)) ?_
      refine rQ iF ?_;refine nS ?_;refine wT ?_;refine sR ?_;refine rC ?_;refine nS ?_;refine wc_ret ?_;refine seq_r ?_
      exact ⟨trivial, [], .of rfl rfl rfl rfl rfl ⟨⟨_, rfl, AVLe.of_eq (by rw [chkP, if_neg h8, if_pos hb]; rfl)⟩, rfl, trivial⟩ trivial⟩
    | false =>
      refine sR ?_;refine rC ?_;refine nR ?_;refine rC ?_;refine nQ ?_;refine sR ?_;refine rC ?_;refine rQ iE ?_;iterate 2 refine rC ?_
      refine rO ?_;refine rC ?_;refine rO ?_;refine rC ?_;refine rO ?_;refine rQ (call_r (ixpc_is encP (fun _ => rfl) badP _ l hL (fun p hp => long_p p (hP p hp))) rfl rfl (arg_e (arg_fn arg_nil)) (.inl rfl) (fun _ => rfl)) ?_
      refine rQ iF ?_;refine nS ?_;refine wF ?_;refine kS ?_;refine sR ?_;refine rC ?_;refine nS ?_;refine wc_ret ?_
      exact ⟨trivial, [], .of rfl rfl rfl rfl rfl ⟨⟨_, rfl, AVLe.of_eq (by rw [chkP, if_neg h8, if_neg (by rw [hb]; simp)]; rfl)⟩, rfl, trivial⟩ trivial⟩
end Go.Proofs.YtmojbghcngdkpaaGreatDoor

namespace Go.Proofs.YtmojbghcngdkpaaGreatDoor
open Go.Eng Go.Plain
set_option maxHeartbeats 4000000
set_option maxRecDepth 20000
attribute [local irreducible] WC RegS RegD SeqQ BlkQ ScoQ RegK CutK Sat SatN FnIs LoopQ StepIs OpIs
def Bd (l : List (List POp)) : Prop := l.length ≤ 1000000000 ∧ ∀ p ∈ l, p.length ≤ 1000000000
theorem bd_chk {l : List (List POp)} (h : chkP l = 0) : Bd l := by
  obtain ⟨h1, h2⟩ := chkP_ok.1 h
  refine ⟨by omega, fun p hp => ?_⟩
  have := h2 p hp
  simp only [badP, Bool.or_eq_false_iff, decide_eq_false_iff_not] at this
  omega
def partT (l : List (List POp)) (i : Nat) (p : List POp) (j : Nat) : List UInt8 := textP (l.take i) ++ (sClient ++ 10 :: opsT (p.take j))
theorem partT_zero (l : List (List POp)) (i : Nat) (p : List POp) : partT l i p 0 = textP (l.take i) ++ (sClient ++ [10]) := by simp [partT, opsT]
theorem partT_go {l : List (List POp)} {i j : Nat} {p : List POp} {o : POp} (ho : p[j]? = some o) : partT l i p j ++ (lineP o ++ [10]) = partT l i p (j + 1) := by
  rw [partT, partT, List.take_add_one, ho, Option.toList_some, opsT_snoc]
  simp
theorem partT_end {l : List (List POp)} {i : Nat} {p : List POp} (hp : l[i]? = some p) : partT l i p p.length = textP (l.take (i + 1)) := by
  rw [partT, List.take_length, List.take_add_one, hp, Option.toList_some, textP_snoc]
theorem textP_app (a b : List (List POp)) : textP (a ++ b) = textP a ++ textP b := by simp [textP]
theorem textP_le (l : List (List POp)) (i : Nat) : (textP (l.take i)).length ≤ (textP l).length := by
  have := congrArg List.length (textP_app (l.take i) (l.drop i))
  rw [List.take_append_drop, List.length_append] at this
  omega
theorem opsT_app (a b : List POp) : opsT (a ++ b) = opsT a ++ opsT b := by simp [opsT]
theorem opsT_le (l : List POp) (i : Nat) : (opsT (l.take i)).length ≤ (opsT l).length := by
  have := congrArg List.length (opsT_app (l.take i) (l.drop i))
  rw [List.take_append_drop, List.length_append] at this
  omega
theorem partT_le {l : List (List POp)} {i j : Nat} {p : List POp} (hp : l[i]? = some p) : (partT l i p j).length ≤ (textP l).length := by
  have h1 := textP_le l (i + 1)
  rw [← partT_end hp] at h1
  have h2 := opsT_le p j
  simp only [partT, List.length_append, List.length_cons, List.take_length] at h1 ⊢
  omega
theorem text_max {l : List (List POp)} (hok : OkL l) (hc : chkP l = 0) : (textP l).length ≤ 1048576 ∧ ∀ p ∈ l, ∀ o ∈ p, o.data.length ≤ 64 := by
  obtain ⟨h1, h2⟩ := chkP_ok.1 hc
  have hb : ∀ p ∈ l, p.length ≤ 64 ∧ ∀ o ∈ p, o.Ok ∧ o.data.length ≤ 64 := fun p hp => by
    have := h2 p hp
    simp only [badP, Bool.or_eq_false_iff, decide_eq_false_iff_not, List.any_eq_false, decide_eq_true_eq] at this
    exact ⟨by omega, fun o ho => ⟨hok p hp o ho, by have := this.2 o ho; omega⟩⟩
  have := text_len (D := 64) (N := 64) l hb
  have h3 : (7 + (51 + 2 * 64) * 64) * l.length ≤ (7 + (51 + 2 * 64) * 64) * 8 := Nat.mul_le_mul_left _ h1
  exact ⟨by omega, fun p hp o ho => ((hb p hp).2 o ho).2⟩
theorem text_bad (l : List (List POp)) (hB : Bd l) (h0 : chkP l ≠ 0) : FnIs Tryz.prog 37 [.d (encPL l)] [] (.tup (.acons (.d (strD [])) (.acons (.d (i6 (chkP l))) .anil))) [] := by
  have hC := check_is l hB.1 hB.2
  have hn : (!decide (chkP l = 0)) = true := by rw [decide_eq_false h0]; rfl
  refine fnIs_of tab_ok Tryz.func37 rfl rfl rfl ?_;refine sR ?_;iterate 2 refine rC ?_
  refine nQ ?_;refine sR ?_;refine rC ?_;refine rQ (call_r hC rfl rfl (arg_e arg_nil) (.inl rfl) (fun _ => rfl)) ?_;refine rC ?_;refine nR ?_;iterate 2 refine rC ?_
  refine nS ?_;refine wT ?_;refine sR ?_;iterate 3 refine rC ?_
  refine nS ?_;refine wc_ret ?_;refine seq_r ?_
  exact ⟨trivial, [], lf⟩
theorem text_zero : FnIs Tryz.prog 37 [.d (encPL [])] [] (.tup (.acons (.d (strD [])) (.acons (.d (i6 0)) .anil))) [] := by
  have hC := check_is [] (by decide) (by simp)
  have h0 : chkP [] = 0 := rfl
  rw [h0] at hC
  refine fnIs_of tab_ok Tryz.func37 rfl rfl rfl ?_;refine sR ?_;iterate 2 refine rC ?_
  refine nQ ?_;refine sR ?_;refine rC ?_;refine rQ (call_r hC rfl rfl (arg_e arg_nil) (.inl rfl) (fun _ => rfl)) ?_;refine rC ?_;refine nR ?_;iterate 2 refine rC ?_
  refine nS ?_;refine wG ?_;refine kS ?_;refine sR ?_;refine rN ?_;refine nQ ?_;refine sR ?_;refine rC ?_;refine rQ iE ?_;refine rC ?_;refine nS ?_;refine wc_block ?_
  refine wc_once ?_;refine sR ?_;refine rC ?_;refine nQ ?_;refine wG ?_;refine wc_exit ?_;refine seq_x ?_;refine loop_x ?_;refine blk_x ?_;refine seq_n ?_;refine sR ?_
  refine reg_new (call_h [(0, some 120)] bstring_zero rfl rfl rfl (arg_ptr rfl rfl arg_nil) ⟨⟨rfl, rfl, _, _, rfl, rfl, .refl _⟩, trivial⟩ rfl rfl (.inl rfl) rfl rfl) rfl ?_
  iterate 2 refine rC ?_
  refine nS ?_;refine wc_ret ?_
  exact ⟨trivial, [], lf⟩
theorem text_some (l : List (List POp)) (hB : Bd l) (hne : l ≠ []) (h0 : chkP l = 0) (hok : OkL l) : FnIs Tryz.prog 37 [.d (encPL l)] [] (.tup (.acons (.d (strD (textP l))) (.acons (.d (i6 0)) .anil))) [] := by
  have hC := check_is l hB.1 hB.2
  obtain ⟨htm, hdm⟩ := text_max hok h0
  rw [h0] at hC
  have hl8 : l.length ≤ 8 := (chkP_ok.1 h0).1
  refine fnIs_of tab_ok Tryz.func37 rfl rfl rfl ?_;refine sR ?_;iterate 2 refine rC ?_
  refine nQ ?_;refine sR ?_;refine rC ?_;refine rQ (call_r hC rfl rfl (arg_e arg_nil) (.inl rfl) (fun _ => rfl)) ?_;refine rC ?_;refine nR ?_;iterate 2 refine rC ?_
  refine nS ?_;refine wG ?_;refine kS ?_;refine sR ?_;refine rN ?_;refine nQ ?_;refine sR ?_;refine rC ?_;refine rQ iE ?_;refine rC ?_;refine nS ?_;refine wc_block ?_
  refine wc_inv (fun i : Nat => ⟨[(17, .int .i64 i), (16, .int .i64 l.length), (15, .d (encPL l)), (5, .ptr 65 [])], [(65, some (bldRow (Nat.beq i 0) 65 66 (textP (l.take i)).length)), (66, some (rowT (textP (l.take i))))], 72, Tryz.f37.ntmps, 64⟩) (fun i => i ≤ l.length) (fun i => l.length - i) 0 [(65, some 120), (66, none)] (Nat.zero_le _)
    (.of rfl rfl rfl rfl rfl ⟨⟨_, rfl, .refl _⟩, rfl, ⟨_, rfl, .refl _⟩, rfl, ⟨_, rfl, .refl _⟩, rfl, ⟨_, rfl, .refl _⟩, rfl, trivial⟩ ⟨⟨rfl, rfl, _, rfl, RowLe.split2⟩, ⟨rfl, rfl, rfl⟩, trivial⟩) ?_
  intro i hi
  refine wc_of ?_;refine sR ?_;refine rC ?_;refine nQ ?_
  refine wc_cond rfl (fun h3 => ?_) (fun h3 => ?_)
  · have hlt : i < l.length := by have := of_decide_eq_true h3; omega
    obtain ⟨p, hp⟩ : ∃ p, l[i]? = some p := ⟨_, List.getElem?_eq_getElem hlt⟩
    have hp' : l[((i : Int)).toNat]? = some p := by rw [Int.toNat_natCast]; exact hp
    have hpm := List.mem_of_getElem? hp
    have hpB : p.length ≤ 1000000000 := hB.2 p hpm
    have hz := partT_le (j := 0) hp
    have hpz := partT_zero l i p
    have hpn : (partT l i p 0).length = (textP (l.take i)).length + (sClient ++ [10]).length := by rw [hpz, List.length_append]
    have hq1 : (textP (l.take i)).length + (sClient ++ [10]).length ≤ 1048576 := by rw [hpz, List.length_append] at hz; omega
    refine kS ?_;refine wc_seq ?_;refine wc_block ?_;refine sR ?_;refine rQ iA ?_;refine rQ iL ?_;refine rC ?_;refine nR ?_
    refine reg_do rfl (call_h [(0, some 65), (1, some 66)] (writestr_is (Nat.beq i 0) (textP (l.take i)) (sClient ++ [10]) (textP (l.take i)).length rfl (by decide) hq1) rfl rfl rfl (arg_ptr rfl rfl (arg_e arg_nil)) ⟨⟨rfl, (by cases Nat.beq i 0 <;> rfl), _, _, rfl, rfl, (by cases Nat.beq i 0 <;> exact .refl _)⟩, ⟨rfl, rfl, _, _, rfl, rfl, .refl _⟩, trivial⟩ rfl rfl (.inl rfl) rfl rfl) rfl rfl ?_
    refine nR ?_;refine rC ?_;refine rQ iE ?_;refine rC ?_;refine nS ?_;refine wc_block ?_
    refine wc_inv (fun j : Nat => ⟨[(24, .int .i64 j), (23, .int .i64 p.length), (22, .d (encP p)), (17, .int .i64 i), (16, .int .i64 l.length), (15, .d (encPL l)), (5, .ptr 65 [])], [(65, some (bldRow false 65 66 (partT l i p j).length)), (66, some (rowT (partT l i p j)))], 72, Tryz.f37.ntmps, 64⟩) (fun j => j ≤ p.length) (fun j => p.length - j) 0 [(66, some 104)] (Nat.zero_le _)
      (.of rfl rfl rfl rfl rfl ⟨⟨_, rfl, .refl _⟩, rfl, ⟨_, rfl, .refl _⟩, rfl, ⟨_, rfl, .refl _⟩, rfl, ⟨_, rfl, .refl _⟩, rfl, ⟨_, rfl, .refl _⟩, rfl, ⟨_, rfl, .refl _⟩, rfl, ⟨_, rfl, .refl _⟩, rfl, trivial⟩ ⟨⟨rfl, rfl, _, rfl, RowLe.of_eq (by rw [hpn]; rfl)⟩, ⟨rfl, rfl, _, rfl, RowLe.of_eq (by rw [hpz]; rfl)⟩, trivial⟩) ?_
    intro j hj
    refine wc_of ?_;refine sR ?_;refine rC ?_;refine nQ ?_
    refine wc_cond rfl (fun h4 => ?_) (fun h4 => ?_)
    · have hjl : j < p.length := by have := of_decide_eq_true h4; omega
      obtain ⟨o, ho⟩ : ∃ o, p[j]? = some o := ⟨_, List.getElem?_eq_getElem hjl⟩
      have ho' : p[((j : Int)).toNat]? = some o := by rw [Int.toNat_natCast]; exact ho
      have hom := List.mem_of_getElem? ho
      have ho1 := hok p hpm o hom
      have ho2 : o.data.length ≤ 524288 := by have := hdm p hpm o hom; omega
      have hgo := partT_go (l := l) (i := i) ho
      have hpl := partT_le (j := j + 1) hp
      have hgn : (partT l i p (j + 1)).length = (partT l i p j).length + (lineP o ++ [10]).length := by rw [← hgo, List.length_append]
      have hq2 : (partT l i p j).length + (lineP o ++ [10]).length ≤ 1048576 := by rw [← hgo, List.length_append] at hpl; omega
      have hq3 : (lineP o).length + [(10 : UInt8)].length ≤ 9223372036854775807 := by simp only [List.length_append] at hq2; omega
      have hq4 : 0 < (lineP o ++ [10]).length := by simp
      refine kS ?_;refine wc_seq ?_;refine wc_block ?_;refine sR ?_;refine rQ iA ?_;refine rQ iL ?_;refine rN ?_;refine rW ?_;refine nS ?_;refine wc_region ?_;refine rQ iM ?_
      refine rQ (call_r (line_is o ho1 ho2) rfl rfl (arg_e arg_nil) (.inl rfl) (fun _ => rfl)) ?_;refine rQ (add_str (a := lineP o) (b := [10]) rfl rfl hq3 rfl) ?_;refine reg_do rfl (call_h [(0, some 65), (1, some 66)] (writestr_is false (partT l i p j) (lineP o ++ [10]) (partT l i p j).length rfl hq4 hq2) rfl rfl rfl (arg_ptr rfl rfl (arg_e arg_nil)) ⟨⟨rfl, rfl, _, _, rfl, rfl, .refl _⟩, ⟨rfl, rfl, _, _, rfl, rfl, .refl _⟩, trivial⟩ rfl rfl (.inl rfl) rfl rfl) rfl rfl ?_
      refine reg_nil ?_;refine blk_n ?_;refine seq_n ?_;refine wc_region ?_;refine rQ iD ?_;refine rC ?_;refine reg_nil ?_
      exact loop_n (j + 1) [(66, some 136)] hjl (by omega) (.of rfl rfl rfl rfl rfl ⟨⟨_, rfl, .refl _⟩, rfl, ⟨_, rfl, .refl _⟩, rfl, ⟨_, rfl, .refl _⟩, rfl, ⟨_, rfl, .refl _⟩, rfl, ⟨_, rfl, .refl _⟩, rfl, ⟨_, rfl, .refl _⟩, rfl, ⟨_, rfl, .refl _⟩, rfl, trivial⟩ ⟨⟨rfl, rfl, _, rfl, RowLe.of_eq (by rw [hgn]; rfl)⟩, ⟨rfl, rfl, _, rfl, RowLe.of_eq (congrArg rowT hgo)⟩, trivial⟩)
    · have he : j = p.length := by have := of_decide_eq_false h4; omega
      subst he
      refine wc_exit ?_;refine seq_x ?_;refine loop_x ?_;refine blk_x ?_;refine blk_n ?_;refine seq_n ?_;refine wc_region ?_;refine rQ iD ?_;refine rC ?_;refine reg_nil ?_
      exact loop_n (i + 1) [] hlt (by omega) (.of rfl rfl rfl rfl rfl ⟨⟨_, rfl, .refl _⟩, rfl, ⟨_, rfl, .refl _⟩, rfl, ⟨_, rfl, .refl _⟩, rfl, ⟨_, rfl, .refl _⟩, rfl, trivial⟩ ⟨⟨rfl, rfl, _, rfl, RowLe.of_eq (by rw [partT_end hp]; rfl)⟩, ⟨rfl, rfl, _, rfl, RowLe.of_eq (congrArg rowT (partT_end hp))⟩, trivial⟩)
  · have he : i = l.length := by have := of_decide_eq_false h3; omega
    subst he
    have hpos : 0 < l.length := List.length_pos_iff.2 hne
    have hne2 : textP l ≠ [] := fun e => by
      cases l with
      | nil => exact hne rfl
      | cons p l => simp [textP, sClient] at e
    have hbz : Nat.beq l.length 0 = false := by
      cases hz : Nat.beq l.length 0 with
      | false => rfl
      | true => have := Nat.eq_of_beq_eq_true hz; omega
    rw [hbz, List.take_length]
    refine wc_exit ?_;refine seq_x ?_;refine loop_x ?_;refine blk_x ?_;refine seq_n ?_;refine sR ?_;refine reg_new2 (call_h [(0, some 65), (1, some 66)] (bstring_is (textP l) (textP l).length rfl hne2 htm) rfl rfl rfl (arg_ptr rfl rfl arg_nil) ⟨⟨rfl, rfl, _, _, rfl, rfl, .refl _⟩, ⟨rfl, rfl, _, _, rfl, rfl, .refl _⟩, trivial⟩ rfl rfl (.inl rfl) rfl rfl) rfl ?_
    iterate 2 refine rC ?_
    refine nS ?_;refine wc_ret ?_
    exact ⟨trivial, [], lf⟩
theorem text_is (l : List (List POp)) (hB : Bd l) (hok : OkL l) : FnIs Tryz.prog 37 [.d (encPL l)] [] (.tup (.acons (.d (strD (if chkP l = 0 then textP l else []))) (.acons (.d (i6 (chkP l))) .anil))) [] := by
  by_cases h0 : chkP l = 0
  · rw [if_pos h0, h0]
    by_cases hn : l = []
    · subst hn; exact text_zero
    · exact text_some l hB hn h0 hok
  · rw [if_neg h0]
    exact text_bad l hB h0
end Go.Proofs.YtmojbghcngdkpaaGreatDoor

namespace Go.Eng
open Go.RowKit
def chM (A : AV) : List D → AV
  | [] => .acons A .anil
  | d :: l => .acons (.d d) (chM A l)
theorem chM_at {A : AV} {s : Nat} : ∀ (l : List D), (∀ d ∈ l, d.size = s) → (chM A l).chainAt l.length (l.length * s) = some A
  | [], _ => by simp [chM, AV.chainAt]
  | d :: l, h => by
    have hd := h d (by simp)
    simp only [chM, List.length_cons, AV.chainAt, AV.size, hd]
    have e : Nat.ble s ((l.length + 1) * s) = true := Nat.ble_eq_true_of_le (by rw [Nat.add_mul]; omega)
    rw [e, show (l.length + 1) * s - s = l.length * s by rw [Nat.add_mul]; omega]
    exact chM_at l fun x hx => h x (by simp [hx])
theorem chM_set {A x : AV} : ∀ (l : List D), AV.chainSet x l.length (chM A l) = chM x l
  | [] => rfl
  | d :: l => by
    simp only [chM, List.length_cons, AV.chainSet, chM_set l]
theorem chM_flat {A : AV} (hA : A.flat = true) : ∀ (l : List D), (chM A l).flat = true
  | [] => by simp [chM, AV.flat, hA]
  | d :: l => by simp [chM, AV.flat, chM_flat hA l]
theorem chM_lt {A : AV} {n : Nat} (hA : A.lt n = true) : ∀ (l : List D), (chM A l).lt n = true
  | [] => by simp [chM, AV.lt, hA]
  | _ :: l => by simp [chM, AV.lt, chM_lt hA l]
theorem chM_ren {A : AV} {ρ : Nat → Option Nat} : ∀ (l : List D), (chM A l).ren ρ = chM (A.ren ρ) l
  | [] => rfl
  | d :: l => by simp only [chM, AV.ren, chM_ren l]
theorem rsub_last {t : TypeId} {s : Nat} {ex : Bool} {A : AV} {l : List D} {m i : Nat} (hl : ∀ d ∈ l, d.size = s) (hm : m = l.length + 1) (hi : i = l.length) : RSub (.lits t s m ex (chM A l)) [.idx i s] A := by
  subst hm hi
  refine ⟨rfl, Nat.lt_succ_self _, ?_⟩
  rw [chM_at l hl]
  rfl
theorem rupd_last {t : TypeId} {s : Nat} {ex : Bool} {A y : AV} {l : List D} {m i : Nat} (hl : ∀ d ∈ l, d.size = s) (hm : m = l.length + 1) (hi : i = l.length) (h1 : A.size = y.size) (h2 : A.isAgg = y.isAgg) : RUpd (.lits t s m ex (chM A l)) [.idx i s] y (.lits t s m ex (chM y l)) := by
  subst hm hi
  refine ⟨rfl, Nat.lt_succ_self _, ?_⟩
  rw [chM_at l hl]
  exact ⟨y, ⟨h1, h2, rfl⟩, by rw [chM_set]⟩
theorem chM_cells {σ : Place} {w : World} {X : Nat → Prop} {A : AV} : ∀ (l : List D) (cs : List Value), Rel σ w X (chM A l) false cs ↔ ∃ c1 c2, cs = c1 ++ c2 ∧ Rel σ w X (dsAV l) false c1 ∧ Rel σ w X A false c2
  | [], cs => by
    constructor
    · rintro ⟨c1, c2, rfl, h1, h2⟩
      rw [show c2 = [] from h2, List.append_nil]
      exact ⟨[], c1, rfl, rfl, h1⟩
    · rintro ⟨c1, c2, rfl, h1, h2⟩
      rw [show c1 = [] from h1]
      exact ⟨c2, [], by simp, h2, rfl⟩
  | d :: l, cs => by
    constructor
    · rintro ⟨c1, c2, rfl, h1, h2⟩
      obtain ⟨c3, c4, rfl, h3, h4⟩ := (chM_cells l c2).1 h2
      exact ⟨c1 ++ c3, c4, by simp, ⟨c1, c3, rfl, h1, h3⟩, h4⟩
    · rintro ⟨c1, c2, rfl, ⟨c3, c4, rfl, h3, h4⟩, h2⟩
      exact ⟨c3, c4 ++ c2, by simp, h3, (chM_cells l _).2 ⟨c4, c2, rfl, h4, h2⟩⟩
theorem dsAV_app {σ : Place} {w : World} {X : Nat → Prop} : ∀ (l m : List D) (cs : List Value), Rel σ w X (dsAV (l ++ m)) false cs ↔ ∃ c1 c2, cs = c1 ++ c2 ∧ Rel σ w X (dsAV l) false c1 ∧ Rel σ w X (dsAV m) false c2
  | [], m, cs => by
    constructor
    · intro h; exact ⟨[], cs, rfl, rfl, h⟩
    · rintro ⟨c1, c2, rfl, h1, h2⟩
      rw [show c1 = [] from h1]; exact h2
  | d :: l, m, cs => by
    constructor
    · rintro ⟨c1, c2, rfl, h1, h2⟩
      obtain ⟨c3, c4, rfl, h3, h4⟩ := (dsAV_app l m c2).1 h2
      exact ⟨c1 ++ c3, c4, by simp, ⟨c1, c3, rfl, h1, h3⟩, h4⟩
    · rintro ⟨c1, c2, rfl, ⟨c3, c4, rfl, h3, h4⟩, h2⟩
      exact ⟨c3, c4 ++ c2, by simp, h3, (dsAV_app l m _).2 ⟨c4, c2, rfl, h4, h2⟩⟩
theorem dsAV_mk {σ : Place} {w : World} {X : Nat → Prop} {α : Type} {enc : α → D} : ∀ (xs : List α) (f : Nat → List Value), (∀ i (h : i < xs.length), Enc w X (enc xs[i]) (f i)) → Rel σ w X (dsAV (xs.map enc)) false (cat f xs.length)
  | [], f, _ => rfl
  | x :: xs, f, h => by
    rw [List.length_cons, Nat.add_comm xs.length 1, cat_add 1]
    refine ⟨f 0, cat (fun i => f (1 + i)) xs.length, by simp only [cat, List.nil_append], h 0 (by simp), ?_⟩
    exact dsAV_mk xs (fun i => f (1 + i)) fun i hi => by
      show Enc w X (enc xs[i]) (f (1 + i))
      rw [Nat.add_comm 1 i]
      exact h (i + 1) (by simpa using hi)
theorem RowLe.ds_chM {t : TypeId} {s m : Nat} {ex : Bool} {α : Type} {enc : α → D} {xs : List α} {y : α} {z : D} (hm : m = xs.length + 1) (hz : z = enc y) : RowLe (.ds t s ex enc (xs ++ [y])) (.lits t s m ex (chM (.d z) (xs.map enc))) := by
  subst hm hz
  intro σ w X r h
  refine ⟨chM_flat rfl _, ?_⟩
  rcases h with ⟨h0, h1⟩ | ⟨b, c, cur, hb, hex, hh, hsz, hlen, hmax, f, hf, htake⟩
  · simp at h1
  · have hn : (xs ++ [y]).length = xs.length + 1 := by simp
    rw [hn] at hlen htake hex
    have hfl : ∀ i, i < xs.length + 1 → (f i).length = s := fun i hi => (hf i (by rw [hn]; exact hi)).2
    refine .inr ⟨b, c, cur, cat f (xs.length + 1), hb, hex, hh, hsz, hlen, hmax, cat_len _ hfl, ?_, htake⟩
    have := dsAV_mk (σ := σ) (w := w) (X := X) (xs ++ [y]) f fun i hi => (hf i hi).1
    rw [hn, List.map_append] at this
    obtain ⟨c1, c2, e, h1, h2⟩ := (dsAV_app _ _ _).1 this
    rw [e]
    refine (chM_cells _ _).2 ⟨c1, c2, rfl, h1, ?_⟩
    obtain ⟨c3, c4, rfl, h3, h4⟩ := h2
    rw [show c4 = [] from h4, List.append_nil]
    exact h3
theorem FrzR.last {r t te s s2 m : Nat} {ex ex2 : Bool} {α β : Type} {enc : α → D} {enc2 : β → D} {xs : List α} {y : α} {ys : List β} {len : Nat} {l : List D} (hl : len = ys.length) (hy : enc y = .arr s2 enc2 ys) (hm : m = xs.length + 1) (hs : ∀ x, (enc x).size = s) (hmap : l = xs.map enc) :
    FrzR r (.ds te s2 ex2 enc2 ys) (.lits t s m ex (chM (.own r 0 len s2 none) l)) (.ds t s ex enc (xs ++ [y])) := by
  subst hm hmap
  refine ⟨fun G h => trivial, fun σ w X X' q hx hn hr hq => ?_⟩
  have hn1 : (xs ++ [y]).length = xs.length + 1 := by simp
  rcases hq with ⟨_, ⟨_, h1⟩ | ⟨b', c', cur, cs', hb', hex, hh, hsz, hlen, hmax, hcl, hrel, htake⟩⟩
  · omega
  · obtain ⟨c1, c2, rfl, h1, h2⟩ := (chM_cells _ _).1 hrel
    have h3 := (Frz.own (te := te) (ex := ex2) (cap := none) hl).2.2.2 σ w X X' hx hn hr c2 h2
    rw [← hy] at h3
    obtain ⟨f, hf, rfl⟩ := dsAV_rel xs _ h1
    have hfl : ∀ i, i < xs.length → (f i).length = s := fun i hi => by rw [← hs xs[i]]; exact Enc.len _ _ (hf i hi)
    have hc2 : c2.length = s := by rw [← hs y]; exact Enc.len _ _ h3
    refine .inr ⟨b', c', cur, hb', by rw [hn1]; exact hex, hh, hsz, by rw [hn1]; exact hlen, hmax, fun i => if i < xs.length then f i else c2, fun i hi => ?_, ?_⟩
    · by_cases hi2 : i < xs.length
      · simp only [if_pos hi2, List.getElem_append_left hi2]
        exact ⟨Enc.sub hx _ _ (hf i hi2), hfl i hi2⟩
      · have : i = xs.length := by rw [hn1] at hi; omega
        subst this
        simp only [if_neg hi2, List.getElem_concat_length]
        exact ⟨h3, hc2⟩
    · rw [hn1, htake]
      have e : cat (fun i => if i < xs.length then f i else c2) xs.length = cat f xs.length := cat_congr _ fun i hi => by simp only [if_pos hi]
      simp only [cat, Nat.lt_irrefl, if_false, e]
end Go.Eng

namespace Go.Proofs.YtmojbghcngdkpaaGreatDoor
open Go.Eng Go.Plain
set_option maxHeartbeats 4000000
set_option maxRecDepth 20000
attribute [local irreducible] WC RegS RegD SeqQ BlkQ ScoQ RegK CutK Sat SatN FnIs LoopQ StepIs OpIs
def encO : Option (List POp) → D
  | none => .sc nil_
  | some p => encP p
theorem encO_size (o : Option (List POp)) : (encO o).size = 1 := by cases o <;> rfl
theorem mapO (l : List (List POp)) : l.map encP = (l.map some).map encO := by simp [encO]
abbrev rowL (p : List POp) (l : List (List POp)) (m r : Nat) : Row := .lits 77 1 m false (chM (.own r 0 p.length 3 none) (l.map encP))
abbrev rowP (p : List POp) : Row := .ds 50 3 false encPOp p
abbrev S0 : List (Nat × Row) := [(0, .box 72 (.own 3 0 0 1 none)), (1, .box 154 (.mapr 2)), (2, .mo (mapC strD knownL)), (3, .ds 77 1 false encO [])]
abbrev S1 (a b : Nat) (l : List (List POp)) (p : List POp) : List (Nat × Row) := [(0, .box 72 (.own a 0 (l.length + 1) 1 none)), (1, .box 154 (.mapr 2)), (2, .mo (mapC strD knownL)), (a, rowL p l (l.length + 1) b), (b, rowP p)]
theorem leaf_nil {b : Nat} {l : List (List POp)} {m : Nat} {ρ : Nat → Option Nat} {xs : List (Option (List POp))} (hm : m = l.length + 1) (hx : xs = l.map some) (hρ : ρ b = none) : RowLe (.ds 77 1 false encO (xs ++ [none])) (Row.ren ρ (rowL [] l m b)) := by
  subst hx
  show RowLe _ (.lits _ _ _ _ (AV.ren ρ (chM _ _)))
  rw [chM_ren, mapO]
  have e : AV.ren ρ (.own b 0 ([] : List POp).length 3 none) = .d (.sc nil_) := by simp [AV.ren, hρ]
  rw [e]
  exact RowLe.ds_chM (by simpa using hm) rfl
theorem add_client0 (t : List UInt8) (ht : t = sClient) : FnIs Tryz.prog 93 [.d (strD t), .ptr 0 [], .ptr 1 []] S0 (.d (i6 0)) (S1 64 65 [] []) := by
  have h0 : decide (t = sClient) = true := decide_eq_true ht
  refine fnIs_of tab_ok Tryz.func93 rfl rfl rfl ?_;refine sR ?_;refine rC ?_;refine nQ ?_;refine sR ?_;refine rC ?_;refine rQ (eql_s (a := t) (b := sClient) tab_ok rfl rfl rfl) ?_
  refine nS ?_;refine wT ?_;refine sR ?_;refine rQ iM ?_;refine reg_new (build_slice (s := 1) tab_ok rfl rfl rfl rfl rfl rfl rfl rfl) rfl ?_;refine reg_new2 (append_one (xs := ([] : List (Option (List POp)))) (s := 1) (enc := encO) tab_ok none rfl rfl rfl rfl rfl rfl rfl rfl rfl (by decide) rfl) rfl ?_
  refine rW ?_;refine nQ ?_;refine sR ?_;refine rQ iM ?_;refine rQ (len_own tab_ok rfl rfl) ?_;refine rC ?_;refine nS ?_;refine wG ?_;refine kS ?_;refine sR ?_;refine rC ?_
  refine nS ?_;refine wc_ret ?_;refine seq_r ?_
  exact ⟨trivial, [(64, some 104), (65, none)], .of rfl rfl rfl rfl rfl ⟨⟨_, rfl, AVLe.of_eq rfl⟩, rfl, trivial⟩ ⟨⟨rfl, rfl, _, rfl, .refl _⟩, ⟨rfl, rfl, _, rfl, .refl _⟩, ⟨rfl, rfl, _, rfl, .refl _⟩, ⟨rfl, rfl, _, rfl, leaf_nil (l := []) (xs := []) rfl rfl rfl⟩, ⟨rfl, rfl, rfl⟩, trivial⟩⟩
theorem add_client1 (t : List UInt8) (ht : t = sClient) (l : List (List POp)) (p : List POp) (hl : l.length ≤ 1000) : FnIs Tryz.prog 93 [.d (strD t), .ptr 0 [], .ptr 1 []] (S1 3 4 l p) (.d (i6 (if 8 < l.length + 2 then 3 else 0))) (S1 64 65 (l ++ [p]) []) := by
  have h0 : decide (t = sClient) = true := decide_eq_true ht
  have hL : l.length + 1 = (l.map some ++ [some p]).length := by simp
  have hlen : (l.map some ++ [some p]).length + [(none : Option (List POp))].length ≤ 1048576 := by simp; omega
  have e1 : (l.map some ++ [some p]).length + [(none : Option (List POp))].length = (l ++ [p]).length + 1 := by simp
  have e2 : l.map some ++ [some p] = (l ++ [p]).map some := by simp
  refine fnIs_of tab_ok Tryz.func93 rfl rfl rfl ?_;refine sR ?_;refine rC ?_;refine nQ ?_;refine sR ?_;refine rC ?_;refine rQ (eql_s (a := t) (b := sClient) tab_ok rfl rfl rfl) ?_
  refine nS ?_;refine wT ?_;refine sR ?_;refine rQ iM ?_;refine reg_new (build_slice (s := 1) tab_ok rfl rfl rfl rfl rfl rfl rfl rfl) rfl ?_;refine reg_freeze (env' := [(12, _), (13, _), (0, _), (1, _), (2, _)]) (h' := [(0, some _), (1, some _), (2, some _), (96, some _), (3, some _)]) 4 _ rfl ⟨⟨_, rfl, .refl _⟩, ⟨_, rfl, .refl _⟩, ⟨_, rfl, .refl _⟩, ⟨_, rfl, .refl _⟩, ⟨_, rfl, .refl _⟩, trivial⟩ ⟨⟨rfl, _, rfl, .refl _⟩, ⟨rfl, _, rfl, .refl _⟩, ⟨rfl, _, rfl, .refl _⟩, ⟨rfl, _, rfl, .refl _⟩, ⟨rfl, _, rfl, FrzR.last (enc := encO) (xs := l.map some) (y := some p) rfl rfl (by simp) encO_size (mapO l)⟩, trivial⟩ ?_
  by_cases hg : 8 < l.length + 2
  · have hgt : decide (8 < (((l.map some ++ [some p]).length + [(none : Option (List POp))].length : Nat) : Int)) = true := decide_eq_true (by simp; omega)
    rw [if_pos hg]
    refine reg_new2 (append_litsL (α := Option (List POp)) (s := 1) (enc := encO) (xs := l.map some ++ [some p]) tab_ok [none] rfl rfl rfl rfl rfl hL rfl rfl rfl rfl (fun _ _ => encO_size _) (by decide) hlen rfl) rfl ?_
    refine rW ?_;refine nQ ?_;refine sR ?_;refine rQ iM ?_;refine rQ (len_own tab_ok rfl rfl) ?_;refine rC ?_;refine nS ?_;refine wT ?_;refine sR ?_;refine rC ?_;refine nS ?_
    refine wc_ret ?_;iterate 2 refine seq_r ?_
    rw [e1, e2]
    exact ⟨trivial, [(64, some 104), (65, none)], .of rfl rfl rfl rfl rfl ⟨⟨_, rfl, AVLe.of_eq rfl⟩, rfl, trivial⟩ ⟨⟨rfl, rfl, _, rfl, .refl _⟩, ⟨rfl, rfl, _, rfl, .refl _⟩, ⟨rfl, rfl, _, rfl, .refl _⟩, ⟨rfl, chM_lt rfl _, _, rfl, leaf_nil rfl rfl rfl⟩, ⟨rfl, rfl, rfl⟩, trivial⟩⟩
  · have hgt : decide (8 < (((l.map some ++ [some p]).length + [(none : Option (List POp))].length : Nat) : Int)) = false := decide_eq_false (by simp; omega)
    rw [if_neg hg]
    refine reg_new2 (append_litsL (α := Option (List POp)) (s := 1) (enc := encO) (xs := l.map some ++ [some p]) tab_ok [none] rfl rfl rfl rfl rfl hL rfl rfl rfl rfl (fun _ _ => encO_size _) (by decide) hlen rfl) rfl ?_
    refine rW ?_;refine nQ ?_;refine sR ?_;refine rQ iM ?_;refine rQ (len_own tab_ok rfl rfl) ?_;refine rC ?_;refine nS ?_;refine wF ?_;refine kS ?_;refine sR ?_;refine rC ?_
    refine nS ?_;refine wc_ret ?_;refine seq_r ?_
    rw [e1, e2]
    exact ⟨trivial, [(64, some 104), (65, none)], .of rfl rfl rfl rfl rfl ⟨⟨_, rfl, AVLe.of_eq rfl⟩, rfl, trivial⟩ ⟨⟨rfl, rfl, _, rfl, .refl _⟩, ⟨rfl, rfl, _, rfl, .refl _⟩, ⟨rfl, rfl, _, rfl, .refl _⟩, ⟨rfl, chM_lt rfl _, _, rfl, leaf_nil rfl rfl rfl⟩, ⟨rfl, rfl, rfl⟩, trivial⟩⟩
end Go.Proofs.YtmojbghcngdkpaaGreatDoor

namespace Go.Plain
open Go.Eng Go.Lib
theorem split_mem_le : ∀ (l : List UInt8) (c : UInt8) (w : List UInt8), w ∈ splitL l c → w.length ≤ l.length
  | [], _, w, h => by simp [splitL] at h; subst h; simp
  | b :: l, c, w, h => by
    simp only [splitL] at h
    split at h
    · rcases List.mem_cons.1 h with rfl | h
      · simp
      · have := split_mem_le l c w h
        simp only [List.length_cons]; omega
    · split at h
      · rw [List.mem_singleton.1 h]; simp
      · rename_i w' ws hs
        rcases List.mem_cons.1 h with rfl | h
        · have := split_mem_le l c w' (by rw [hs]; simp)
          simp only [List.length_cons]; omega
        · have := split_mem_le l c w (by rw [hs]; simp [h])
          simp only [List.length_cons]; omega
theorem pairs_len : ∀ (s t : List UInt8), pairsO s = some t → s.length = 2 * t.length
  | [], t, h => by cases h; rfl
  | [_], _, h => by cases h
  | a :: b :: l, t, h => by
    simp only [pairsO] at h
    split at h
    · rename_i x y r _ _ hr
      cases h
      have := pairs_len l r hr
      simp only [List.length_cons]; omega
    · cases h
theorem unhex_len {s t : List UInt8} (h : unhexP s = some t) : 2 * t.length ≤ s.length := by
  rw [unhexP] at h
  split at h
  · cases h; simp
  · split at h
    · cases h
    · rw [pairs_len _ _ h]; exact Nat.le_refl _
theorem split_head {t a : List UInt8} {c : UInt8} {r : List (List UInt8)} (h : splitL t c = a :: r) : a.length + r.length ≤ t.length := by
  rw [split_cut] at h
  cases hc : cutL t c with
  | none => rw [hc] at h; simp only at h; cases h; simp
  | some pq =>
    obtain ⟨p, q⟩ := pq
    rw [hc] at h
    simp only [List.cons.injEq] at h
    obtain ⟨rfl, rfl⟩ := h
    have := splitL_len q c
    rw [(cutL_some hc).1]
    simp
    omega
end Go.Plain

namespace Go.Proofs.YtmojbghcngdkpaaGreatDoor
open Go.Eng Go.Plain
set_option maxHeartbeats 4000000
set_option maxRecDepth 20000
attribute [local irreducible] WC RegS RegD SeqQ BlkQ ScoQ RegK CutK Sat SatN FnIs LoopQ StepIs OpIs
theorem fn_zero : ZeroIs Tryz.prog 157 (.sc .nilFunc) := zero_of (by kernel_rfl) rfl
theorem leaf_keep {b b' : Nat} {p : List POp} {l : List (List POp)} {m m' : Nat} {ρ : Nat → Option Nat} (hm : m = m') (hρ : ρ b' = some b) : RowLe (rowL p l m b) (Row.ren ρ (rowL p l m' b')) := by
  subst hm
  show RowLe _ (.lits _ _ _ _ (AV.ren ρ (chM _ _)))
  rw [chM_ren]
  have e : AV.ren ρ (.own b' 0 p.length 3 none) = .own b 0 p.length 3 none := by simp [AV.ren, hρ]
  rw [e]
  exact .refl _
theorem add_unk0 (t a : List UInt8) (r : List (List UInt8)) (ht : t ≠ sClient) (hl : t.length ≤ 1048576) (hsp : splitL t 32 = a :: r) (hf : findC a knownL 0 = none) : FnIs Tryz.prog 93 [.d (strD t), .ptr 0 [], .ptr 1 []] S0 (.d (i6 5)) S0 := by
  have h0 : decide (t = sClient) = false := decide_eq_false ht
  have hs := split_is (l := t) (c := 32) (by omega)
  rw [hsp] at hs
  have g0 : (a :: r)[((0 : Int)).toNat]? = some a := rfl
  refine fnIs_of tab_ok Tryz.func93 rfl rfl rfl ?_;refine sR ?_;refine rC ?_;refine nQ ?_;refine sR ?_;refine rC ?_;refine rQ (eql_s (a := t) (b := sClient) tab_ok rfl rfl rfl) ?_
  refine nS ?_;refine wF ?_;refine kS ?_;refine sR ?_;refine rC ?_;refine rQ (call_r hs rfl rfl (arg_e (arg_e arg_nil)) (.inl rfl) (fun _ => rfl)) ?_;refine rC ?_
  refine nQ ?_;refine wc_draw (by kernel_rfl) ?_;refine dQ [2] [1, 2] iM ?_;refine dC [5] [] ?_;refine dQ [22] [] iA ?_;refine dQ [23] [] iL ?_;refine dQ [21, 24] [2] (lookup2_none (κ := List UInt8) (enc := strD) (l := knownL) (k := a) key_str Tryz.underlying154 fn_zero rfl rfl rfl hf) ?_
  refine dC [25] [] ?_;iterate 2 refine dC [20] [] ?_
  refine dC [26] [] ?_;refine dC [27] [] ?_;refine dreg_end (by kernel_rfl) ?_;refine seq_n ?_;refine qR ?_;iterate 3 refine rC ?_
  iterate 3 refine rT ?_
  refine rQ iU ?_;refine nS ?_;refine wV ?_;refine sR ?_;refine rC ?_;refine nS ?_;refine wc_ret ?_;refine seq_r ?_
  exact ⟨trivial, [], .of rfl rfl rfl rfl rfl ⟨⟨_, rfl, AVLe.of_eq rfl⟩, rfl, trivial⟩ ⟨⟨rfl, rfl, _, rfl, .refl _⟩, ⟨rfl, rfl, _, rfl, .refl _⟩, ⟨rfl, rfl, _, rfl, .refl _⟩, ⟨rfl, rfl, _, rfl, .refl _⟩, trivial⟩⟩
theorem add_unk1 (t a : List UInt8) (r : List (List UInt8)) (ht : t ≠ sClient) (hl : t.length ≤ 1048576) (hsp : splitL t 32 = a :: r) (hf : findC a knownL 0 = none) (l : List (List POp)) (p : List POp) : FnIs Tryz.prog 93 [.d (strD t), .ptr 0 [], .ptr 1 []] (S1 3 4 l p) (.d (i6 5)) (S1 3 4 l p) := by
  have h0 : decide (t = sClient) = false := decide_eq_false ht
  have hs := split_is (l := t) (c := 32) (by omega)
  rw [hsp] at hs
  have g0 : (a :: r)[((0 : Int)).toNat]? = some a := rfl
  refine fnIs_of tab_ok Tryz.func93 rfl rfl rfl ?_;refine sR ?_;refine rC ?_;refine nQ ?_;refine sR ?_;refine rC ?_;refine rQ (eql_s (a := t) (b := sClient) tab_ok rfl rfl rfl) ?_
  refine nS ?_;refine wF ?_;refine kS ?_;refine sR ?_;refine rC ?_;refine rQ (call_r hs rfl rfl (arg_e (arg_e arg_nil)) (.inl rfl) (fun _ => rfl)) ?_;refine rC ?_
  refine nQ ?_;refine wc_draw (by kernel_rfl) ?_;refine dQ [2] [1, 2] iM ?_;refine dC [5] [] ?_;refine dQ [22] [] iA ?_;refine dQ [23] [] iL ?_;refine dQ [21, 24] [2] (lookup2_none (κ := List UInt8) (enc := strD) (l := knownL) (k := a) key_str Tryz.underlying154 fn_zero rfl rfl rfl hf) ?_
  refine dC [25] [] ?_;iterate 2 refine dC [20] [] ?_
  refine dC [26] [] ?_;refine dC [27] [] ?_;refine dreg_end (by kernel_rfl) ?_;refine seq_n ?_;refine qR ?_;iterate 3 refine rC ?_
  iterate 3 refine rT ?_
  refine rQ iU ?_;refine nS ?_;refine wV ?_;refine sR ?_;refine rC ?_;refine nS ?_;refine wc_ret ?_;refine seq_r ?_
  exact ⟨trivial, [], .of rfl rfl rfl rfl rfl ⟨⟨_, rfl, AVLe.of_eq rfl⟩, rfl, trivial⟩ ⟨⟨rfl, rfl, _, rfl, .refl _⟩, ⟨rfl, rfl, _, rfl, .refl _⟩, ⟨rfl, rfl, _, rfl, .refl _⟩, ⟨rfl, chM_lt rfl _, _, rfl, leaf_keep rfl rfl⟩, ⟨rfl, rfl, _, rfl, .refl _⟩, trivial⟩⟩
theorem add_known0 (t a : List UInt8) (r : List (List UInt8)) (ht : t ≠ sClient) (hl : t.length ≤ 1048576) (hsp : splitL t 32 = a :: r) (f j : Nat) (hf : findC a knownL 0 = some (j, fnA f)) : FnIs Tryz.prog 93 [.d (strD t), .ptr 0 [], .ptr 1 []] S0 (.d (i6 5)) S0 := by
  have h0 : decide (t = sClient) = false := decide_eq_false ht
  have hs := split_is (l := t) (c := 32) (by omega)
  rw [hsp] at hs
  have g0 : (a :: r)[((0 : Int)).toNat]? = some a := rfl
  refine fnIs_of tab_ok Tryz.func93 rfl rfl rfl ?_;refine sR ?_;refine rC ?_;refine nQ ?_;refine sR ?_;refine rC ?_;refine rQ (eql_s (a := t) (b := sClient) tab_ok rfl rfl rfl) ?_
  refine nS ?_;refine wF ?_;refine kS ?_;refine sR ?_;refine rC ?_;refine rQ (call_r hs rfl rfl (arg_e (arg_e arg_nil)) (.inl rfl) (fun _ => rfl)) ?_;refine rC ?_
  refine nQ ?_;refine wc_draw (by kernel_rfl) ?_;refine dQ [2] [1, 2] iM ?_;refine dC [5] [] ?_;refine dQ [22] [] iA ?_;refine dQ [23] [] iL ?_;refine dQ [21, 24] [2] (lookup2_some (κ := List UInt8) (enc := strD) (l := knownL) (k := a) key_str Tryz.underlying154 rfl rfl rfl hf) ?_
  refine dC [25] [] ?_;iterate 2 refine dC [20] [] ?_
  refine dC [26] [] ?_;refine dC [27] [] ?_;refine dreg_end (by kernel_rfl) ?_;refine seq_n ?_;refine qR ?_;iterate 3 refine rC ?_
  refine rP ?_;refine rQ iM ?_;refine rP ?_;refine rQ (len_own tab_ok rfl rfl) ?_;refine rP ?_;refine rC ?_;refine rQ iG ?_;refine nS ?_;refine wV ?_;refine sR ?_
  refine rC ?_;refine nS ?_;refine wc_ret ?_;refine seq_r ?_
  exact ⟨trivial, [], .of rfl rfl rfl rfl rfl ⟨⟨_, rfl, AVLe.of_eq rfl⟩, rfl, trivial⟩ ⟨⟨rfl, rfl, _, rfl, .refl _⟩, ⟨rfl, rfl, _, rfl, .refl _⟩, ⟨rfl, rfl, _, rfl, .refl _⟩, ⟨rfl, rfl, _, rfl, .refl _⟩, trivial⟩⟩
theorem add_bad1 (t a : List UInt8) (r : List (List UInt8)) (ht : t ≠ sClient) (hl : t.length ≤ 1048576) (hsp : splitL t 32 = a :: r) (f j : Nat) (hf : findC a knownL 0 = some (j, fnA f)) (o : POp) (hread : FnIs Tryz.prog f [.d (.arr 1 strD r)] [] (opR o false) []) (l : List (List POp)) (p : List POp) (hll : l.length ≤ 1000) : FnIs Tryz.prog 93 [.d (strD t), .ptr 0 [], .ptr 1 []] (S1 3 4 l p) (.d (i6 5)) (S1 3 4 l p) := by
  have h0 : decide (t = sClient) = false := decide_eq_false ht
  have hs := split_is (l := t) (c := 32) (by omega)
  rw [hsp] at hs
  have g0 : (a :: r)[((0 : Int)).toNat]? = some a := rfl
  have hz : decide (((l.length + 1 : Nat) : Int) = 0) = false := decide_eq_false (by omega)
  refine fnIs_of tab_ok Tryz.func93 rfl rfl rfl ?_;refine sR ?_;refine rC ?_;refine nQ ?_;refine sR ?_;refine rC ?_;refine rQ (eql_s (a := t) (b := sClient) tab_ok rfl rfl rfl) ?_
  refine nS ?_;refine wF ?_;refine kS ?_;refine sR ?_;refine rC ?_;refine rQ (call_r hs rfl rfl (arg_e (arg_e arg_nil)) (.inl rfl) (fun _ => rfl)) ?_;refine rC ?_
  refine nQ ?_;refine wc_draw (by kernel_rfl) ?_;refine dQ [2] [1, 2] iM ?_;refine dC [5] [] ?_;refine dQ [22] [] iA ?_;refine dQ [23] [] iL ?_;refine dQ [21, 24] [2] (lookup2_some (κ := List UInt8) (enc := strD) (l := knownL) (k := a) key_str Tryz.underlying154 rfl rfl rfl hf) ?_
  refine dC [25] [] ?_;iterate 2 refine dC [20] [] ?_
  refine dC [26] [] ?_;refine dC [27] [] ?_;refine dreg_end (by kernel_rfl) ?_;refine seq_n ?_;refine qR ?_;iterate 3 refine rC ?_
  refine rP ?_;refine rQ iM ?_;refine rP ?_;refine rQ (len_own tab_ok rfl rfl) ?_;refine rP ?_;refine rC ?_;refine rQ iG ?_;refine nS ?_;refine wG ?_;refine kS ?_
  refine sR ?_;iterate 2 refine rC ?_
  refine rQ (slice_from (m := 1) tab_ok rfl rfl rfl rfl rfl (Nat.succ_le_succ (Nat.zero_le _))) ?_;refine rQ (call_r hread rfl rfl (arg_e arg_nil) (.inl rfl) (fun _ => rfl)) ?_
  iterate 3 refine rC ?_
  refine rN ?_;refine rW ?_;refine rC ?_;refine nQ ?_;refine sR ?_;iterate 3 refine rC ?_
  iterate 4 refine rT ?_
  refine rQ iU ?_;refine nS ?_;refine wV ?_;refine sR ?_;refine rC ?_;refine nS ?_;refine wc_ret ?_;refine seq_r ?_
  exact ⟨trivial, [], .of rfl rfl rfl rfl rfl ⟨⟨_, rfl, AVLe.of_eq rfl⟩, rfl, trivial⟩ ⟨⟨rfl, rfl, _, rfl, .refl _⟩, ⟨rfl, rfl, _, rfl, .refl _⟩, ⟨rfl, rfl, _, rfl, .refl _⟩, ⟨rfl, chM_lt rfl _, _, rfl, leaf_keep rfl rfl⟩, ⟨rfl, rfl, _, rfl, .refl _⟩, trivial⟩⟩
end Go.Proofs.YtmojbghcngdkpaaGreatDoor

namespace Go.Proofs.YtmojbghcngdkpaaGreatDoor
open Go.Eng Go.Plain
set_option maxHeartbeats 4000000
set_option maxRecDepth 20000
attribute [local irreducible] WC RegS RegD SeqQ BlkQ ScoQ RegK CutK Sat SatN FnIs LoopQ StepIs OpIs
theorem add_ne1 (t a : List UInt8) (r : List (List UInt8)) (ht : t ≠ sClient) (hl : t.length ≤ 1048576) (hsp : splitL t 32 = a :: r) (f j : Nat) (hf : findC a knownL 0 = some (j, fnA f)) (o : POp) (hok : o.Ok) (hdl : o.data.length ≤ 524288) (hread : FnIs Tryz.prog f [.d (.arr 1 strD r)] [] (opR o true) []) (l : List (List POp)) (p : List POp) (hll : l.length ≤ 1000) (hne : lineP o ≠ t) : FnIs Tryz.prog 93 [.d (strD t), .ptr 0 [], .ptr 1 []] (S1 3 4 l p) (.d (i6 5)) (S1 3 4 l p) := by
  have h0 : decide (t = sClient) = false := decide_eq_false ht
  have hs := split_is (l := t) (c := 32) (by omega)
  rw [hsp] at hs
  have g0 : (a :: r)[((0 : Int)).toNat]? = some a := rfl
  have hz : decide (((l.length + 1 : Nat) : Int) = 0) = false := decide_eq_false (by omega)
  have hline := line_is o hok hdl
  have hn : (!decide (lineP o = t)) = true := by rw [decide_eq_false hne]; rfl
  refine fnIs_of tab_ok Tryz.func93 rfl rfl rfl ?_;refine sR ?_;refine rC ?_;refine nQ ?_;refine sR ?_;refine rC ?_;refine rQ (eql_s (a := t) (b := sClient) tab_ok rfl rfl rfl) ?_
  refine nS ?_;refine wF ?_;refine kS ?_;refine sR ?_;refine rC ?_;refine rQ (call_r hs rfl rfl (arg_e (arg_e arg_nil)) (.inl rfl) (fun _ => rfl)) ?_;refine rC ?_
  refine nQ ?_;refine wc_draw (by kernel_rfl) ?_;refine dQ [2] [1, 2] iM ?_;refine dC [5] [] ?_;refine dQ [22] [] iA ?_;refine dQ [23] [] iL ?_;refine dQ [21, 24] [2] (lookup2_some (κ := List UInt8) (enc := strD) (l := knownL) (k := a) key_str Tryz.underlying154 rfl rfl rfl hf) ?_
  refine dC [25] [] ?_;iterate 2 refine dC [20] [] ?_
  refine dC [26] [] ?_;refine dC [27] [] ?_;refine dreg_end (by kernel_rfl) ?_;refine seq_n ?_;refine qR ?_;iterate 3 refine rC ?_
  refine rP ?_;refine rQ iM ?_;refine rP ?_;refine rQ (len_own tab_ok rfl rfl) ?_;refine rP ?_;refine rC ?_;refine rQ iG ?_;refine nS ?_;refine wG ?_;refine kS ?_
  refine sR ?_;iterate 2 refine rC ?_
  refine rQ (slice_from (m := 1) tab_ok rfl rfl rfl rfl rfl (Nat.succ_le_succ (Nat.zero_le _))) ?_;refine rQ (call_r hread rfl rfl (arg_e arg_nil) (.inl rfl) (fun _ => rfl)) ?_
  iterate 3 refine rC ?_
  refine rN ?_;refine rW ?_;refine rC ?_;refine nQ ?_;refine sR ?_;iterate 3 refine rC ?_
  refine rP ?_;refine rQ iM ?_;refine rP ?_;refine rQ (call_r hline rfl rfl (arg_e arg_nil) (.inl rfl) (fun _ => rfl)) ?_;refine rP ?_;refine rC ?_;refine rP ?_;refine rQ (neq_s (a := lineP o) (b := t) tab_ok rfl rfl rfl) ?_
  refine rQ iG ?_;refine nS ?_;refine wT ?_;refine sR ?_;refine rC ?_;refine nS ?_;refine wc_ret ?_;refine seq_r ?_
  exact ⟨trivial, [], .of rfl rfl rfl rfl rfl ⟨⟨_, rfl, AVLe.of_eq rfl⟩, rfl, trivial⟩ ⟨⟨rfl, rfl, _, rfl, .refl _⟩, ⟨rfl, rfl, _, rfl, .refl _⟩, ⟨rfl, rfl, _, rfl, .refl _⟩, ⟨rfl, chM_lt rfl _, _, rfl, leaf_keep rfl rfl⟩, ⟨rfl, rfl, _, rfl, .refl _⟩, trivial⟩⟩
theorem leaf_len {b b' n : Nat} {p : List POp} {l : List (List POp)} {m m' : Nat} {ρ : Nat → Option Nat} (hm : m = m') (hn : n = p.length) (hρ : ρ b' = some b) : RowLe (.lits 77 1 m false (chM (.own b 0 n 3 none) (l.map encP))) (Row.ren ρ (rowL p l m' b')) := by
  subst hn
  exact leaf_keep hm hρ
theorem add_ok1 (t a : List UInt8) (r : List (List UInt8)) (ht : t ≠ sClient) (hl : t.length ≤ 1048576) (hsp : splitL t 32 = a :: r) (f j : Nat) (hf : findC a knownL 0 = some (j, fnA f)) (o : POp) (hok : o.Ok) (hdl : o.data.length ≤ 524288) (hread : FnIs Tryz.prog f [.d (.arr 1 strD r)] [] (opR o true) []) (l : List (List POp)) (p : List POp) (hll : l.length ≤ 1000) (hpp : p.length ≤ 1000) (heq : lineP o = t) (b1 b2 : Bool) (hb1 : decide (64 < ((p.length + 1 : Nat) : Int)) = b1) (hb2 : decide (64 < ((byI o.data).length : Int)) = b2) : FnIs Tryz.prog 93 [.d (strD t), .ptr 0 [], .ptr 1 []] (S1 3 4 l p) (.d (i6 (if b1 || b2 then 3 else 0))) (S1 3 65 l (p ++ [o])) := by
  have h0 : decide (t = sClient) = false := decide_eq_false ht
  have hs := split_is (l := t) (c := 32) (by omega)
  rw [hsp] at hs
  have g0 : (a :: r)[((0 : Int)).toNat]? = some a := rfl
  have hz : decide (((l.length + 1 : Nat) : Int) = 0) = false := decide_eq_false (by omega)
  have hline := line_is o hok hdl
  have hn : (!decide (lineP o = t)) = false := by rw [decide_eq_true heq]; rfl
  have hw : IntKind.i64.wrap (((l.length + 1 : Nat) : Int) - 1) = (l.length : Int) := by rw [wrap_i64 (by omega) (by omega)]; omega
  have hsz : ∀ d ∈ l.map encP, d.size = 1 := fun d hd => by
    obtain ⟨x, _, rfl⟩ := List.mem_map.1 hd
    rfl
  have hmm : l.length + 1 = (l.map encP).length + 1 := by simp
  have hml : (l.map encP).length = l.length := by simp
  have hpn : p.length + 1 = (p ++ [o]).length := by simp
  have hpl : p.length + 1 ≤ 1048576 := by omega
  refine fnIs_of tab_ok Tryz.func93 rfl rfl rfl ?_
  cases b1 <;> cases b2
  · refine sR ?_;refine rC ?_;refine nQ ?_;refine sR ?_;refine rC ?_;refine rQ (eql_s (a := t) (b := sClient) tab_ok rfl rfl rfl) ?_;refine nS ?_;refine wF ?_;refine kS ?_
    refine sR ?_;refine rC ?_;refine rQ (call_r hs rfl rfl (arg_e (arg_e arg_nil)) (.inl rfl) (fun _ => rfl)) ?_;refine rC ?_;refine nQ ?_;refine wc_draw (by kernel_rfl) ?_
    refine dQ [2] [1, 2] iM ?_;refine dC [5] [] ?_;refine dQ [22] [] iA ?_;refine dQ [23] [] iL ?_;refine dQ [21, 24] [2] (lookup2_some (κ := List UInt8) (enc := strD) (l := knownL) (k := a) key_str Tryz.underlying154 rfl rfl rfl hf) ?_
    refine dC [25] [] ?_;iterate 2 refine dC [20] [] ?_
    refine dC [26] [] ?_;refine dC [27] [] ?_;refine dreg_end (by kernel_rfl) ?_;refine seq_n ?_;refine qR ?_;iterate 3 refine rC ?_
    refine rP ?_;refine rQ iM ?_;refine rP ?_;refine rQ (len_own tab_ok rfl rfl) ?_;refine rP ?_;refine rC ?_;refine rQ iG ?_;refine nS ?_;refine wG ?_;refine kS ?_
    refine sR ?_;iterate 2 refine rC ?_
    refine rQ (slice_from (m := 1) tab_ok rfl rfl rfl rfl rfl (Nat.succ_le_succ (Nat.zero_le _))) ?_;refine rQ (call_r hread rfl rfl (arg_e arg_nil) (.inl rfl) (fun _ => rfl)) ?_
    iterate 3 refine rC ?_
    refine rN ?_;refine rW ?_;refine rC ?_;refine nQ ?_;refine sR ?_;iterate 3 refine rC ?_
    refine rP ?_;refine rQ iM ?_;refine rP ?_;refine rQ (call_r hline rfl rfl (arg_e arg_nil) (.inl rfl) (fun _ => rfl)) ?_;refine rP ?_;refine rC ?_;refine rP ?_;refine rQ (neq_s (a := lineP o) (b := t) tab_ok rfl rfl rfl) ?_
    refine rQ iG ?_;refine nS ?_;refine wF ?_;refine kS ?_;refine wc_seq ?_;refine wc_draw (by kernel_rfl) ?_;iterate 2 refine dQ [1] [0, 3] iM ?_
    refine dQ [51] [3] (len_own tab_ok rfl rfl) ?_;refine dQ [52] [] (sub_int (m := (l.length : Int)) tab_ok rfl rfl hw) ?_;refine dQ [50, 53] [3] (index_own tab_ok rfl rfl rfl rfl rfl (by omega) (by omega)) ?_
    refine dQ [54] [3] (load_row tab_ok rfl rfl (rsub_last (s := 1) (A := .own 4 0 p.length 3 none) hsz hmm ((Int.toNat_natCast _).trans hml.symm)) rfl) ?_;refine dQ [8] [304] iM ?_
    refine dreg_w [56] [] rfl (build_slice (s := 3) tab_ok rfl rfl rfl rfl rfl rfl rfl rfl) ?_;refine dreg_w2 [55, 57] [4, 448] rfl (append_one (xs := p) (s := 3) (enc := encPOp) tab_ok o rfl rfl rfl rfl rfl rfl rfl rfl rfl hpl rfl) ?_
    refine dC [58] [456] ?_;refine dreg_end (by kernel_rfl) ?_;refine seq_n ?_;refine sR ?_;iterate 2 refine rQ iM ?_
    refine rQ (len_own tab_ok rfl rfl) ?_;refine rQ (sub_int (m := (l.length : Int)) tab_ok rfl rfl hw) ?_;refine rC ?_;refine rQ (index_own tab_ok rfl rfl rfl rfl rfl (by omega) (by omega)) ?_
    refine reg_store (store_row tab_ok rfl rfl rfl (rupd_last (s := 1) hsz hmm ((Int.toNat_natCast _).trans hml.symm) rfl rfl) rfl) ?_;refine nQ ?_;refine sR ?_;refine rC ?_
    refine rQ (len_own tab_ok rfl rfl) ?_;iterate 2 refine rC ?_
    refine rO ?_;refine rC ?_;refine rO ?_;refine rQ iB ?_;refine rO ?_;refine rQ iE ?_;refine rO ?_;refine rC ?_;refine rQ iF ?_;refine nS ?_;refine wF ?_;refine kS ?_
    refine sR ?_;refine rC ?_;refine nS ?_;refine wc_ret ?_
    exact ⟨trivial, [(65, some 456)], .of rfl rfl rfl rfl rfl ⟨⟨_, rfl, AVLe.of_eq rfl⟩, rfl, trivial⟩ ⟨⟨rfl, rfl, _, rfl, .refl _⟩, ⟨rfl, rfl, _, rfl, .refl _⟩, ⟨rfl, rfl, _, rfl, .refl _⟩, ⟨rfl, chM_lt rfl _, _, rfl, leaf_len rfl hpn rfl⟩, ⟨rfl, rfl, _, rfl, .refl _⟩, trivial⟩⟩
  · refine sR ?_;refine rC ?_;refine nQ ?_;refine sR ?_;refine rC ?_;refine rQ (eql_s (a := t) (b := sClient) tab_ok rfl rfl rfl) ?_;refine nS ?_;refine wF ?_;refine kS ?_
    refine sR ?_;refine rC ?_;refine rQ (call_r hs rfl rfl (arg_e (arg_e arg_nil)) (.inl rfl) (fun _ => rfl)) ?_;refine rC ?_;refine nQ ?_;refine wc_draw (by kernel_rfl) ?_
    refine dQ [2] [1, 2] iM ?_;refine dC [5] [] ?_;refine dQ [22] [] iA ?_;refine dQ [23] [] iL ?_;refine dQ [21, 24] [2] (lookup2_some (κ := List UInt8) (enc := strD) (l := knownL) (k := a) key_str Tryz.underlying154 rfl rfl rfl hf) ?_
    refine dC [25] [] ?_;iterate 2 refine dC [20] [] ?_
    refine dC [26] [] ?_;refine dC [27] [] ?_;refine dreg_end (by kernel_rfl) ?_;refine seq_n ?_;refine qR ?_;iterate 3 refine rC ?_
    refine rP ?_;refine rQ iM ?_;refine rP ?_;refine rQ (len_own tab_ok rfl rfl) ?_;refine rP ?_;refine rC ?_;refine rQ iG ?_;refine nS ?_;refine wG ?_;refine kS ?_
    refine sR ?_;iterate 2 refine rC ?_
    refine rQ (slice_from (m := 1) tab_ok rfl rfl rfl rfl rfl (Nat.succ_le_succ (Nat.zero_le _))) ?_;refine rQ (call_r hread rfl rfl (arg_e arg_nil) (.inl rfl) (fun _ => rfl)) ?_
    iterate 3 refine rC ?_
    refine rN ?_;refine rW ?_;refine rC ?_;refine nQ ?_;refine sR ?_;iterate 3 refine rC ?_
    refine rP ?_;refine rQ iM ?_;refine rP ?_;refine rQ (call_r hline rfl rfl (arg_e arg_nil) (.inl rfl) (fun _ => rfl)) ?_;refine rP ?_;refine rC ?_;refine rP ?_;refine rQ (neq_s (a := lineP o) (b := t) tab_ok rfl rfl rfl) ?_
    refine rQ iG ?_;refine nS ?_;refine wF ?_;refine kS ?_;refine wc_seq ?_;refine wc_draw (by kernel_rfl) ?_;iterate 2 refine dQ [1] [0, 3] iM ?_
    refine dQ [51] [3] (len_own tab_ok rfl rfl) ?_;refine dQ [52] [] (sub_int (m := (l.length : Int)) tab_ok rfl rfl hw) ?_;refine dQ [50, 53] [3] (index_own tab_ok rfl rfl rfl rfl rfl (by omega) (by omega)) ?_
    refine dQ [54] [3] (load_row tab_ok rfl rfl (rsub_last (s := 1) (A := .own 4 0 p.length 3 none) hsz hmm ((Int.toNat_natCast _).trans hml.symm)) rfl) ?_;refine dQ [8] [304] iM ?_
    refine dreg_w [56] [] rfl (build_slice (s := 3) tab_ok rfl rfl rfl rfl rfl rfl rfl rfl) ?_;refine dreg_w2 [55, 57] [4, 448] rfl (append_one (xs := p) (s := 3) (enc := encPOp) tab_ok o rfl rfl rfl rfl rfl rfl rfl rfl rfl hpl rfl) ?_
    refine dC [58] [456] ?_;refine dreg_end (by kernel_rfl) ?_;refine seq_n ?_;refine sR ?_;iterate 2 refine rQ iM ?_
    refine rQ (len_own tab_ok rfl rfl) ?_;refine rQ (sub_int (m := (l.length : Int)) tab_ok rfl rfl hw) ?_;refine rC ?_;refine rQ (index_own tab_ok rfl rfl rfl rfl rfl (by omega) (by omega)) ?_
    refine reg_store (store_row tab_ok rfl rfl rfl (rupd_last (s := 1) hsz hmm ((Int.toNat_natCast _).trans hml.symm) rfl rfl) rfl) ?_;refine nQ ?_;refine sR ?_;refine rC ?_
    refine rQ (len_own tab_ok rfl rfl) ?_;iterate 2 refine rC ?_
    refine rO ?_;refine rC ?_;refine rO ?_;refine rQ iB ?_;refine rO ?_;refine rQ iE ?_;refine rO ?_;refine rC ?_;refine rQ iF ?_;refine nS ?_;refine wT ?_;refine sR ?_
    refine rC ?_;refine nS ?_;refine wc_ret ?_;refine seq_r ?_
    exact ⟨trivial, [(65, some 456)], .of rfl rfl rfl rfl rfl ⟨⟨_, rfl, AVLe.of_eq rfl⟩, rfl, trivial⟩ ⟨⟨rfl, rfl, _, rfl, .refl _⟩, ⟨rfl, rfl, _, rfl, .refl _⟩, ⟨rfl, rfl, _, rfl, .refl _⟩, ⟨rfl, chM_lt rfl _, _, rfl, leaf_len rfl hpn rfl⟩, ⟨rfl, rfl, _, rfl, .refl _⟩, trivial⟩⟩
  · refine sR ?_;refine rC ?_;refine nQ ?_;refine sR ?_;refine rC ?_;refine rQ (eql_s (a := t) (b := sClient) tab_ok rfl rfl rfl) ?_;refine nS ?_;refine wF ?_;refine kS ?_
    refine sR ?_;refine rC ?_;refine rQ (call_r hs rfl rfl (arg_e (arg_e arg_nil)) (.inl rfl) (fun _ => rfl)) ?_;refine rC ?_;refine nQ ?_;refine wc_draw (by kernel_rfl) ?_
    refine dQ [2] [1, 2] iM ?_;refine dC [5] [] ?_;refine dQ [22] [] iA ?_;refine dQ [23] [] iL ?_;refine dQ [21, 24] [2] (lookup2_some (κ := List UInt8) (enc := strD) (l := knownL) (k := a) key_str Tryz.underlying154 rfl rfl rfl hf) ?_
    refine dC [25] [] ?_;iterate 2 refine dC [20] [] ?_
    refine dC [26] [] ?_;refine dC [27] [] ?_;refine dreg_end (by kernel_rfl) ?_;refine seq_n ?_;refine qR ?_;iterate 3 refine rC ?_
    refine rP ?_;refine rQ iM ?_;refine rP ?_;refine rQ (len_own tab_ok rfl rfl) ?_;refine rP ?_;refine rC ?_;refine rQ iG ?_;refine nS ?_;refine wG ?_;refine kS ?_
    refine sR ?_;iterate 2 refine rC ?_
    refine rQ (slice_from (m := 1) tab_ok rfl rfl rfl rfl rfl (Nat.succ_le_succ (Nat.zero_le _))) ?_;refine rQ (call_r hread rfl rfl (arg_e arg_nil) (.inl rfl) (fun _ => rfl)) ?_
    iterate 3 refine rC ?_
    refine rN ?_;refine rW ?_;refine rC ?_;refine nQ ?_;refine sR ?_;iterate 3 refine rC ?_
    refine rP ?_;refine rQ iM ?_;refine rP ?_;refine rQ (call_r hline rfl rfl (arg_e arg_nil) (.inl rfl) (fun _ => rfl)) ?_;refine rP ?_;refine rC ?_;refine rP ?_;refine rQ (neq_s (a := lineP o) (b := t) tab_ok rfl rfl rfl) ?_
    refine rQ iG ?_;refine nS ?_;refine wF ?_;refine kS ?_;refine wc_seq ?_;refine wc_draw (by kernel_rfl) ?_;iterate 2 refine dQ [1] [0, 3] iM ?_
    refine dQ [51] [3] (len_own tab_ok rfl rfl) ?_;refine dQ [52] [] (sub_int (m := (l.length : Int)) tab_ok rfl rfl hw) ?_;refine dQ [50, 53] [3] (index_own tab_ok rfl rfl rfl rfl rfl (by omega) (by omega)) ?_
    refine dQ [54] [3] (load_row tab_ok rfl rfl (rsub_last (s := 1) (A := .own 4 0 p.length 3 none) hsz hmm ((Int.toNat_natCast _).trans hml.symm)) rfl) ?_;refine dQ [8] [304] iM ?_
    refine dreg_w [56] [] rfl (build_slice (s := 3) tab_ok rfl rfl rfl rfl rfl rfl rfl rfl) ?_;refine dreg_w2 [55, 57] [4, 448] rfl (append_one (xs := p) (s := 3) (enc := encPOp) tab_ok o rfl rfl rfl rfl rfl rfl rfl rfl rfl hpl rfl) ?_
    refine dC [58] [456] ?_;refine dreg_end (by kernel_rfl) ?_;refine seq_n ?_;refine sR ?_;iterate 2 refine rQ iM ?_
    refine rQ (len_own tab_ok rfl rfl) ?_;refine rQ (sub_int (m := (l.length : Int)) tab_ok rfl rfl hw) ?_;refine rC ?_;refine rQ (index_own tab_ok rfl rfl rfl rfl rfl (by omega) (by omega)) ?_
    refine reg_store (store_row tab_ok rfl rfl rfl (rupd_last (s := 1) hsz hmm ((Int.toNat_natCast _).trans hml.symm) rfl rfl) rfl) ?_;refine nQ ?_;refine sR ?_;refine rC ?_
    refine rQ (len_own tab_ok rfl rfl) ?_;iterate 2 refine rC ?_
    iterate 4 refine rS ?_
    refine rQ iT ?_;refine nS ?_;refine wV ?_;refine sR ?_;refine rC ?_;refine nS ?_;refine wc_ret ?_;refine seq_r ?_
    exact ⟨trivial, [(65, some 456)], .of rfl rfl rfl rfl rfl ⟨⟨_, rfl, AVLe.of_eq rfl⟩, rfl, trivial⟩ ⟨⟨rfl, rfl, _, rfl, .refl _⟩, ⟨rfl, rfl, _, rfl, .refl _⟩, ⟨rfl, rfl, _, rfl, .refl _⟩, ⟨rfl, chM_lt rfl _, _, rfl, leaf_len rfl hpn rfl⟩, ⟨rfl, rfl, _, rfl, .refl _⟩, trivial⟩⟩
  · refine sR ?_;refine rC ?_;refine nQ ?_;refine sR ?_;refine rC ?_;refine rQ (eql_s (a := t) (b := sClient) tab_ok rfl rfl rfl) ?_;refine nS ?_;refine wF ?_;refine kS ?_
    refine sR ?_;refine rC ?_;refine rQ (call_r hs rfl rfl (arg_e (arg_e arg_nil)) (.inl rfl) (fun _ => rfl)) ?_;refine rC ?_;refine nQ ?_;refine wc_draw (by kernel_rfl) ?_
    refine dQ [2] [1, 2] iM ?_;refine dC [5] [] ?_;refine dQ [22] [] iA ?_;refine dQ [23] [] iL ?_;refine dQ [21, 24] [2] (lookup2_some (κ := List UInt8) (enc := strD) (l := knownL) (k := a) key_str Tryz.underlying154 rfl rfl rfl hf) ?_
    refine dC [25] [] ?_;iterate 2 refine dC [20] [] ?_
    refine dC [26] [] ?_;refine dC [27] [] ?_;refine dreg_end (by kernel_rfl) ?_;refine seq_n ?_;refine qR ?_;iterate 3 refine rC ?_
    refine rP ?_;refine rQ iM ?_;refine rP ?_;refine rQ (len_own tab_ok rfl rfl) ?_;refine rP ?_;refine rC ?_;refine rQ iG ?_;refine nS ?_;refine wG ?_;refine kS ?_
    refine sR ?_;iterate 2 refine rC ?_
    refine rQ (slice_from (m := 1) tab_ok rfl rfl rfl rfl rfl (Nat.succ_le_succ (Nat.zero_le _))) ?_;refine rQ (call_r hread rfl rfl (arg_e arg_nil) (.inl rfl) (fun _ => rfl)) ?_
    iterate 3 refine rC ?_
    refine rN ?_;refine rW ?_;refine rC ?_;refine nQ ?_;refine sR ?_;iterate 3 refine rC ?_
    refine rP ?_;refine rQ iM ?_;refine rP ?_;refine rQ (call_r hline rfl rfl (arg_e arg_nil) (.inl rfl) (fun _ => rfl)) ?_;refine rP ?_;refine rC ?_;refine rP ?_;refine rQ (neq_s (a := lineP o) (b := t) tab_ok rfl rfl rfl) ?_
    refine rQ iG ?_;refine nS ?_;refine wF ?_;refine kS ?_;refine wc_seq ?_;refine wc_draw (by kernel_rfl) ?_;iterate 2 refine dQ [1] [0, 3] iM ?_
    refine dQ [51] [3] (len_own tab_ok rfl rfl) ?_;refine dQ [52] [] (sub_int (m := (l.length : Int)) tab_ok rfl rfl hw) ?_;refine dQ [50, 53] [3] (index_own tab_ok rfl rfl rfl rfl rfl (by omega) (by omega)) ?_
    refine dQ [54] [3] (load_row tab_ok rfl rfl (rsub_last (s := 1) (A := .own 4 0 p.length 3 none) hsz hmm ((Int.toNat_natCast _).trans hml.symm)) rfl) ?_;refine dQ [8] [304] iM ?_
    refine dreg_w [56] [] rfl (build_slice (s := 3) tab_ok rfl rfl rfl rfl rfl rfl rfl rfl) ?_;refine dreg_w2 [55, 57] [4, 448] rfl (append_one (xs := p) (s := 3) (enc := encPOp) tab_ok o rfl rfl rfl rfl rfl rfl rfl rfl rfl hpl rfl) ?_
    refine dC [58] [456] ?_;refine dreg_end (by kernel_rfl) ?_;refine seq_n ?_;refine sR ?_;iterate 2 refine rQ iM ?_
    refine rQ (len_own tab_ok rfl rfl) ?_;refine rQ (sub_int (m := (l.length : Int)) tab_ok rfl rfl hw) ?_;refine rC ?_;refine rQ (index_own tab_ok rfl rfl rfl rfl rfl (by omega) (by omega)) ?_
    refine reg_store (store_row tab_ok rfl rfl rfl (rupd_last (s := 1) hsz hmm ((Int.toNat_natCast _).trans hml.symm) rfl rfl) rfl) ?_;refine nQ ?_;refine sR ?_;refine rC ?_
    refine rQ (len_own tab_ok rfl rfl) ?_;iterate 2 refine rC ?_
    iterate 4 refine rS ?_
    refine rQ iT ?_;refine nS ?_;refine wV ?_;refine sR ?_;refine rC ?_;refine nS ?_;refine wc_ret ?_;refine seq_r ?_
    exact ⟨trivial, [(65, some 456)], .of rfl rfl rfl rfl rfl ⟨⟨_, rfl, AVLe.of_eq rfl⟩, rfl, trivial⟩ ⟨⟨rfl, rfl, _, rfl, .refl _⟩, ⟨rfl, rfl, _, rfl, .refl _⟩, ⟨rfl, rfl, _, rfl, .refl _⟩, ⟨rfl, chM_lt rfl _, _, rfl, leaf_len rfl hpn rfl⟩, ⟨rfl, rfl, _, rfl, .refl _⟩, trivial⟩⟩
end Go.Proofs.YtmojbghcngdkpaaGreatDoor

namespace Go.Proofs.YtmojbghcngdkpaaGreatDoor
open Go.Eng Go.Plain
theorem opW_some {w : List (List UInt8)} (h : (opW w).2 = true) : ∃ k i d, w = [k, i, d] ∧ opF k i d = some (opW w).1 := by
  unfold opW at h ⊢
  split
  · rename_i k i d
    exact ⟨k, i, d, rfl, by rw [opF_is, if_pos h]⟩
  · rename_i hn
    split at h
    · rename_i k i d
      exact absurd rfl (hn k i d)
    · cases h
theorem opW_none {k i d : List UInt8} (h : (opW [k, i, d]).2 = false) : opF k i d = none := by
  rw [opF_is, if_neg]
  intro hc
  rw [show (opW [k, i, d]).2 = opOk k i d from rfl, hc] at h
  cases h
theorem opF_len {k i d : List UInt8} {o : POp} (h : opF k i d = some o) (hd : d.length ≤ 1048576) : o.data.length ≤ 524288 := by
  simp only [opF] at h
  split at h
  · rename_i d' _ _ h3
    cases h
    have := unhex_len h3
    simp only
    omega
  · cases h
theorem read_case (a : List UInt8) (r : List (List UInt8)) (hw : ∀ x ∈ r, x.length ≤ 1048576) (hl : a.length + r.length ≤ 1048576) :
    (findC a knownL 0 = none ∧ readW (a :: r) = none) ∨ ∃ j f o b, findC a knownL 0 = some (j, fnA f) ∧ FnIs Tryz.prog f [.d (.arr 1 strD r)] [] (opR o b) [] ∧ (b = true → readW (a :: r) = some o ∧ o.Ok ∧ o.data.length ≤ 524288) ∧ (b = false → readW (a :: r) = none) := by
  have fin : ∀ (ws : List (List UInt8)), (∀ x ∈ ws, x.length ≤ 1048576) → (∀ o, readW (a :: r) = some o → o.Ok) → (∀ k i d, ws = [k, i, d] → readW (a :: r) = opF k i d) → ((∀ k i d, ws ≠ [k, i, d]) → readW (a :: r) = none) →
      ((opW ws).2 = true → readW (a :: r) = some (opW ws).1 ∧ (opW ws).1.Ok ∧ (opW ws).1.data.length ≤ 524288) ∧ ((opW ws).2 = false → readW (a :: r) = none) := by
    intro ws hx hk h1 h2
    constructor
    · intro h
      obtain ⟨k, i, d, e, h3⟩ := opW_some h
      have h4 : readW (a :: r) = some (opW ws).1 := (h1 k i d e).trans h3
      exact ⟨h4, hk _ h4, opF_len h3 (hx d (by rw [e]; simp))⟩
    · intro h
      by_cases hs : ∃ k i d, ws = [k, i, d]
      · obtain ⟨k, i, d, rfl⟩ := hs
        exact (h1 k i d rfl).trans (opW_none h)
      · exact h2 fun k i d e => hs ⟨k, i, d, e⟩
  have hok : ∀ o, readW (a :: r) = some o → o.Ok := fun o h => readW_ok h
  by_cases h1 : a = sRead
  · subst h1
    refine .inr ⟨0, 126, _, _, rfl, reader1_is r hw (by simp [sRead, sWrite, sFlush] at hl; omega), ?_⟩
    refine fin _ ?_ hok ?_ ?_
    · intro x hx
      rcases List.mem_cons.1 hx with rfl | hx
      · decide
      · rcases List.mem_append.1 hx with hx | hx
        · exact hw x hx
        · rw [List.mem_singleton.1 hx]; decide
    · intro k i d e
      match r, e with
      | [x], e => cases e; simp [readW]
      | [], e => cases e
      | _ :: _ :: _, e => simp at e
    · intro hn
      match r, hn with
      | [x], hn => exact absurd rfl (hn [49] x [45])
      | [], _ => simp [readW]
      | _ :: _ :: _, _ => simp [readW]
  by_cases h2 : a = sWrite
  · subst h2
    refine .inr ⟨1, 129, _, _, rfl, reader2_is r hw (by simp [sRead, sWrite, sFlush] at hl; omega), ?_⟩
    refine fin _ ?_ hok ?_ ?_
    · intro x hx
      rcases List.mem_cons.1 hx with rfl | hx
      · decide
      · exact hw x hx
    · intro k i d e
      match r, e with
      | [x, y], e => cases e; simp [readW, h1]
      | [], e => cases e
      | [_], e => cases e
      | _ :: _ :: _ :: _, e => simp at e
    · intro hn
      match r, hn with
      | [x, y], hn => exact absurd rfl (hn [50] x y)
      | [], _ => simp [readW, h1]
      | [_], _ => simp [readW, h1]
      | _ :: _ :: _ :: _, _ => simp [readW, h1]
  by_cases h3 : a = sFlush
  · subst h3
    refine .inr ⟨2, 130, _, _, rfl, reader3_is r hw (by simp [sRead, sWrite, sFlush] at hl; omega), ?_⟩
    refine fin _ ?_ hok ?_ ?_
    · intro x hx
      simp only [List.mem_cons] at hx
      rcases hx with rfl | rfl | rfl | hx
      · decide
      · decide
      · decide
      · exact hw x hx
    · intro k i d e
      match r, e with
      | [], e => cases e; simp [readW, h1, h2]
      | _ :: _, e => simp at e
    · intro hn
      match r, hn with
      | [], hn => exact absurd rfl (hn [51] [48] [45])
      | _ :: _, _ => simp [readW, h1, h2]
  by_cases h4 : a = sOp
  · subst h4
    refine .inr ⟨3, 127, _, _, rfl, operation_is r hw, ?_⟩
    refine fin _ hw hok ?_ ?_
    · intro k i d e
      subst e
      simp [readW, h1, h2, h3]
    · intro hn
      match r, hn with
      | [k, i, d], hn => exact absurd rfl (hn k i d)
      | [], _ => simp [readW, h1, h2, h3]
      | [_], _ => simp [readW, h1, h2, h3]
      | [_, _], _ => simp [readW, h1, h2, h3]
      | _ :: _ :: _ :: _ :: _, _ => simp [readW, h1, h2, h3]
  · refine .inl ⟨?_, by simp [readW, h1, h2, h3, h4]⟩
    simp [knownL, findC, Ne.symm h1, Ne.symm h2, Ne.symm h3, Ne.symm h4, h1, h2, h3, h4]
abbrev addC : FuncId := 93
abbrev addA (t : List UInt8) : List AV := [.d (strD t), .ptr 0 [], .ptr 1 []]
theorem add_none {t : List UInt8} (ht : t ≠ sClient) (hl : t.length ≤ 1048575) : (addP [] t).2 = 5 ∧ FnIs Tryz.prog addC (addA t) S0 (.d (i6 5)) S0 := by
  have h5 : (addP [] t).2 = 5 := by
    simp only [addP, if_neg ht]
    cases readP t <;> rfl
  refine ⟨h5, ?_⟩
  cases hs : splitL t 32 with
  | nil => exact absurd hs (splitL_ne t 32)
  | cons a r =>
    have hh := split_head hs
    have hw : ∀ x ∈ r, x.length ≤ 1048576 := fun x hx => by
      have := split_mem_le t 32 x (by rw [hs]; simp [hx])
      omega
    rcases read_case a r hw (by omega) with ⟨hf, _⟩ | ⟨j, f, o, b, hf, _⟩
    · exact add_unk0 t a r ht (by omega) hs hf
    · exact add_known0 t a r ht (by omega) hs f j hf
theorem add_some {t : List UInt8} (ht : t ≠ sClient) (hl : t.length ≤ 1048575) (l : List (List POp)) (p : List POp) (hll : l.length ≤ 1000) (hpp : p.length ≤ 1000) :
    (∃ e : Int, e ≠ 0 ∧ (addP (l ++ [p]) t).2 = e ∧ (FnIs Tryz.prog addC (addA t) (S1 3 4 l p) (.d (i6 e)) (S1 3 4 l p) ∨ ∃ o, FnIs Tryz.prog addC (addA t) (S1 3 4 l p) (.d (i6 e)) (S1 3 65 l (p ++ [o])))) ∨
    ∃ o, addP (l ++ [p]) t = (l ++ [p ++ [o]], 0) ∧ FnIs Tryz.prog addC (addA t) (S1 3 4 l p) (.d (i6 0)) (S1 3 65 l (p ++ [o])) := by
  cases hs : splitL t 32 with
  | nil => exact absurd hs (splitL_ne t 32)
  | cons a r =>
    have hh := split_head hs
    have hw : ∀ x ∈ r, x.length ≤ 1048576 := fun x hx => by
      have := split_mem_le t 32 x (by rw [hs]; simp [hx])
      omega
    have hno : readP t = none → (addP (l ++ [p]) t).2 = 5 := fun h => by simp only [addP, if_neg ht, h]
    rcases read_case a r hw (by omega) with ⟨hf, hr⟩ | ⟨j, f, o, b, hf, hread, hb1, hb2⟩
    · exact .inl ⟨5, by decide, hno (by simp only [readP, hs, hr]), .inl (add_unk1 t a r ht (by omega) hs hf l p)⟩
    · cases b with
      | false => exact .inl ⟨5, by decide, hno (by simp only [readP, hs, hb2 rfl]), .inl (add_bad1 t a r ht (by omega) hs f j hf o hread l p hll)⟩
      | true =>
        obtain ⟨h1, h2, h3⟩ := hb1 rfl
        by_cases he : lineP o = t
        · have hr : readP t = some o := by simp only [readP, hs, h1, if_pos he]
          have hok := add_ok1 t a r ht (by omega) hs f j hf o h2 h3 hread l p hll hpp he _ _ rfl rfl
          have hne : ¬ (l ++ [p] = []) := by simp
          have hg : (l ++ [p]).getLast?.getD [] = p := by simp
          have hbl : (byI o.data).length = o.data.length := byI_len _
          by_cases hbig : 64 < p.length + 1 ∨ 64 < o.data.length
          · have hb : (decide (64 < ((p.length + 1 : Nat) : Int)) || decide (64 < ((byI o.data).length : Int))) = true := by
              rw [Bool.or_eq_true, decide_eq_true_eq, decide_eq_true_eq, hbl]
              rcases hbig with h | h
              · exact .inl (by omega)
              · exact .inr (by omega)
            rw [hb] at hok
            refine .inl ⟨3, by decide, ?_, .inr ⟨o, hok⟩⟩
            simp only [addP, if_neg ht, hr, if_neg hne, hg, if_pos hbig]
          · have hb : (decide (64 < ((p.length + 1 : Nat) : Int)) || decide (64 < ((byI o.data).length : Int))) = false := by
              rw [Bool.or_eq_false_iff, decide_eq_false_iff_not, decide_eq_false_iff_not, hbl]
              exact ⟨by omega, by omega⟩
            rw [hb] at hok
            refine .inr ⟨o, ?_, hok⟩
            simp only [addP, if_neg ht, hr, if_neg hne, hg, if_neg hbig, lastApp_snoc]
        · exact .inl ⟨5, by decide, hno (by simp only [readP, hs, h1, if_neg he]), .inl (add_ne1 t a r ht (by omega) hs f j hf o h2 h3 hread l p hll he)⟩
end Go.Proofs.YtmojbghcngdkpaaGreatDoor

namespace Go.Proofs.YtmojbghcngdkpaaGreatDoor
open Go.Eng Go.Plain
set_option maxHeartbeats 4000000
set_option maxRecDepth 20000
attribute [local irreducible] WC RegS RegD SeqQ BlkQ ScoQ RegK CutK Sat SatN FnIs LoopQ StepIs OpIs
abbrev parR (l : List (List POp)) (n : Nat) (e : Int) : AV := .tup (.acons (.d (.arx 1 encXP l)) (.acons (.int .i64 n) (.acons (.d (i6 e)) .anil)))
theorem nil_arx {α : Type} (s : Nat) (enc : α → D) : AVLe (.d (.sc nil_)) (.d (.arx s enc [])) := fun σ w X v h => AVLe.empty_arx s enc σ w X v (AVLe.nil_empty σ w X v h)
def toL : Option (List (List POp) × List POp) → List (List POp)
  | none => []
  | some (l, p) => l ++ [p]
abbrev addF : AV := .fn (.func 93) .anil (.acons (.ptr 65 []) (.acons (.ptr 66 []) .anil))
@[reducible] noncomputable def pSt : Option (List (List POp) × List POp) × List UInt8 × Nat → St
  | (none, s, n) => ⟨[(6, addF), (3, .int .i64 n), (2, .ptr 65 []), (0, .d (strD s))], [(65, some (.box 72 (.own 68 0 0 1 none))), (66, some (.box 154 (.mapr 67))), (67, some (.mo (mapC strD knownL))), (68, some (.ds 77 1 false encO []))], 72, Tryz.f47.ntmps, 64⟩
  | (some (l, p), s, n) => ⟨[(6, addF), (3, .int .i64 n), (2, .ptr 65 []), (0, .d (strD s))], [(65, some (.box 72 (.own 68 0 (l.length + 1) 1 none))), (66, some (.box 154 (.mapr 67))), (67, some (.mo (mapC strD knownL))), (68, some (rowL p l (l.length + 1) 69)), (69, some (rowP p))], 72, Tryz.f47.ntmps, 64⟩
theorem leaf_ren {b b' c : Nat} {p : List POp} {l : List (List POp)} {m m' : Nat} {ρ ρ' : Nat → Option Nat} (hm : m = m') (h1 : ρ b = some c) (h2 : ρ' b' = some c) : RowLe (Row.ren ρ (rowL p l m b)) (Row.ren ρ' (rowL p l m' b')) := by
  subst hm
  show RowLe (.lits _ _ _ _ (AV.ren ρ (chM _ _))) (.lits _ _ _ _ (AV.ren ρ' (chM _ _)))
  rw [chM_ren, chM_ren]
  have e1 : AV.ren ρ (.own b 0 p.length 3 none) = .own c 0 p.length 3 none := by simp [AV.ren, h1]
  have e2 : AV.ren ρ' (.own b' 0 p.length 3 none) = .own c 0 p.length 3 none := by simp [AV.ren, h2]
  rw [e1, e2]
  exact .refl _
theorem arr_map {α β : Type} {s : Nat} {enc : α → D} {enc' : β → D} {g : β → α} {xs : List β} {ys : List α} (hy : ys = xs.map g) (h : ∀ x, enc (g x) = enc' x) : ∀ (σ : Eng.Place) (w : World) (X : Nat → Prop) (cs : List Value), Rel σ w X (.d (.arr s enc ys)) false cs → Rel σ w X (.d (.arr s enc' xs)) false cs := by
  subst hy
  intro σ w X v hv
  rcases hv with ⟨h1, rfl⟩ | ⟨a, c, rfl, h2, h3, f, hf⟩
  · exact .inl ⟨by simpa using h1, rfl⟩
  · refine .inr ⟨a, c, by rw [List.length_map], by rw [List.length_map] at h2; exact h2, h3, f, fun i hi => ?_⟩
    have := hf i (by rw [List.length_map]; exact hi)
    rw [List.getElem_map, h] at this
    exact this
theorem arr_nilR {α β : Type} {s : Nat} (enc : α → D) (enc' : β → D) : ∀ (σ : Eng.Place) (w : World) (X : Nat → Prop) (cs : List Value), Rel σ w X (.d (.arr s enc [])) false cs → Rel σ w X (.d (.arr s enc' [])) false cs := by
  intro σ w X v hv
  rcases hv with ⟨_, rfl⟩ | ⟨a, c, rfl, h2, h3, f, _⟩
  · exact .inl ⟨rfl, rfl⟩
  · exact .inr ⟨a, c, rfl, h2, h3, f, fun i hi => absurd hi (Nat.not_lt_zero _)⟩
def enc2 : Bool × List POp → D
  | (true, p) => encXP p
  | (false, p) => encP p
theorem enc2_size (x : Bool × List POp) : (enc2 x).size = 1 := by obtain ⟨b, p⟩ := x; cases b <;> rfl
def mkL (L : List (List POp)) (i : Nat) : List (Bool × List POp) := (L.take i).map (fun p => (true, p)) ++ (L.drop i).map (fun p => (false, p))
theorem mkL_len (L : List (List POp)) (i : Nat) : (mkL L i).length = L.length := by simp [mkL]; omega
theorem mkL_get {L : List (List POp)} {i : Nat} {x : List POp} (h : L[i]? = some x) : (mkL L i)[i]? = some (false, x) := by
  have hi : i < L.length := (List.getElem?_eq_some_iff.1 h).1
  rw [mkL, List.getElem?_append_right (by simp; omega)]
  simp only [List.length_map, List.length_take, Nat.min_eq_left (Nat.le_of_lt hi), Nat.sub_self, List.getElem?_map, List.getElem?_drop, Nat.add_zero, h, Option.map_some]
theorem mkL_set {L : List (List POp)} {i : Nat} {x : List POp} (h : L[i]? = some x) : (mkL L i).set i (true, x) = mkL L (i + 1) := by
  have hi : i < L.length := (List.getElem?_eq_some_iff.1 h).1
  have hx : L[i] = x := (List.getElem?_eq_some_iff.1 h).2
  rw [mkL, mkL, List.set_append_right _ _ (by simp; omega), List.drop_eq_getElem_cons hi, hx, List.take_add_one, h]
  simp [Nat.min_eq_left (Nat.le_of_lt hi)]
def PInv (s0 : List UInt8) : Option (List (List POp) × List POp) × List UInt8 × Nat → Prop
  | (q, s, n) => parseP s (toL q) n = parseP s0 [] 1 ∧ chkP (toL q) = 0 ∧ OkL (toL q) ∧ s.length + n ≤ s0.length + 1 ∧ 1 ≤ n
theorem cut_len {s t r : List UInt8} {c : UInt8} (h : cutL s c = some (t, r)) : t.length + r.length + 1 = s.length := by
  rw [(cutL_some h).1]; simp; omega
theorem parse_main (s0 : List UInt8) (hl : s0.length ≤ 1048576) : FnIs Tryz.prog 47 [.d (strD s0)] [] (parR (parseP s0 [] 1).1 (parseP s0 [] 1).2.1 (parseP s0 [] 1).2.2) [] := by
  have hd : decide (1048576 < (s0.length : Int)) = false := decide_eq_false (by omega)
  refine fnIs_of tab_ok Tryz.func47 rfl rfl rfl ?_;refine sR ?_;refine rN ?_;iterate 2 refine rC ?_
  refine nQ ?_;refine sR ?_;refine rC ?_;refine rQ (len_s tab_ok rfl rfl) ?_;refine rC ?_;refine nS ?_;refine wF ?_;refine kS ?_;refine sR ?_;refine reg_new (call_new readers_is rfl rfl arg_nil (.inl rfl) rfl rfl) rfl ?_
  refine rN ?_;refine rW ?_;refine nR ?_;iterate 2 refine rC ?_
  refine nQ ?_;refine sR ?_;refine rC ?_;refine nS ?_;refine wc_block ?_
  refine wc_inv pSt (PInv s0) (fun a => a.2.1.length) (none, s0, 1) [(65, some 64), (66, some 120), (67, some 112), (68, none)] ⟨rfl, rfl, by intro p hp; simp [toL] at hp, Nat.le_refl _, Nat.le_refl _⟩
    (.of rfl rfl rfl rfl rfl ⟨⟨_, rfl, .refl _⟩, rfl, ⟨_, rfl, .refl _⟩, rfl, ⟨_, rfl, .refl _⟩, rfl, ⟨_, rfl, .refl _⟩, rfl, trivial⟩ ⟨⟨rfl, rfl, _, rfl, .refl _⟩, ⟨rfl, rfl, _, rfl, .refl _⟩, ⟨rfl, rfl, _, rfl, .refl _⟩, ⟨rfl, rfl, rfl⟩, trivial⟩) ?_
  rintro ⟨q, s, n⟩ ⟨hp, hc0, hok, hn, hn1⟩
  by_cases hs : s = []
  · have hR : parseP s0 [] 1 = (toL q, 0, 0) := by rw [← hp, hs, parseP_nil]
    rw [hR]
    have hs1 : (!decide (s = [])) = false := by rw [hs]; rfl
    cases q with
    | none =>
      have hcl := clones_is [] (by decide)
      have hcp := clips_is []
      refine wc_of ?_;refine qR ?_;refine rC ?_;refine rQ (neq_s (a := s) (b := []) tab_ok rfl rfl rfl) ?_;refine nS ?_;refine wF ?_;refine wc_exit ?_;refine seq_x ?_
      refine loop_x ?_;refine blk_x ?_;refine seq_n ?_;refine qR ?_;refine rQ iM ?_;refine rQ (len_own tab_ok rfl rfl) ?_;refine rC ?_;refine nS ?_;refine wc_block ?_
      refine wc_once ?_;refine sR ?_;refine rC ?_;refine nQ ?_;refine wG ?_;refine wc_exit ?_;refine seq_x ?_;refine loop_x ?_;refine blk_x ?_;refine seq_n ?_;refine sR ?_
      refine rQ iM ?_;refine reg_freeze (env' := [(53, _), (2, _)]) (h' := [(65, some _)]) 68 _ rfl ⟨⟨_, rfl, Frz.le (y := .d (.arr 1 encXP [])) (Frz.own rfl) rfl (fun _ => rfl) (fun _ _ => trivial) (arr_nilR encO encXP)⟩, ⟨_, rfl, .refl _⟩, trivial⟩ ⟨⟨rfl, _, rfl, .refl _⟩, trivial⟩ ?_
      refine rQ (call_r hcl rfl rfl (arg_e arg_nil) (.inl rfl) (fun _ => rfl)) ?_;refine rQ (call_r hcp rfl rfl (arg_e arg_nil) (.inl rfl) (fun _ => rfl)) ?_;refine rW ?_
      iterate 2 refine rC ?_
      refine nS ?_;refine wc_ret ?_
      exact ⟨trivial, _, rfl, [], lf⟩
    | some lp =>
      obtain ⟨l, p⟩ := lp
      obtain ⟨c1, c2⟩ := chkP_ok.1 hc0
      have hl8 : l.length + 1 ≤ 8 := by simpa [toL] using c1
      have hLl : (l ++ [p]).length = l.length + 1 := by simp
      have hcl := clones_is (l ++ [p]) (by rw [hLl]; omega)
      have hcp := clips_is (l ++ [p])
      refine wc_of ?_;refine qR ?_;refine rC ?_;refine rQ (neq_s (a := s) (b := []) tab_ok rfl rfl rfl) ?_;refine nS ?_;refine wF ?_;refine wc_exit ?_;refine seq_x ?_
      refine loop_x ?_;refine blk_x ?_;refine seq_n ?_;refine qR ?_;refine reg_freeze (env' := [(2, _)]) (h' := [(65, some _), (68, some _)]) 69 _ rfl ⟨⟨_, rfl, .refl _⟩, trivial⟩ ⟨⟨rfl, _, rfl, .refl _⟩, ⟨rfl, _, rfl, FrzR.last (enc := enc2) (xs := l.map (fun p => (false, p))) (y := (false, p)) rfl rfl (by simp) enc2_size (by simp [enc2])⟩, trivial⟩ ?_
      refine rQ iM ?_;refine rQ (len_own tab_ok rfl rfl) ?_;refine rC ?_;refine nS ?_;refine wc_block ?_
      refine wc_inv (fun i : Nat => ⟨[(40, .int .i64 i), (39, .int .i64 ((l.length + 1 : Nat) : Int)), (2, .ptr 65 [])], [(65, some (.box 72 (.own 68 0 (l.length + 1) 1 none))), (68, some (.ds 77 1 false enc2 (mkL (l ++ [p]) i)))], 72, Tryz.f47.ntmps, 64⟩) (fun i => i ≤ l.length + 1) (fun i => l.length + 1 - i) 0 [] (Nat.zero_le _)
        (.of rfl rfl rfl rfl rfl ⟨⟨_, rfl, .refl _⟩, rfl, ⟨_, rfl, .refl _⟩, rfl, ⟨_, rfl, .refl _⟩, rfl, trivial⟩ ⟨⟨rfl, rfl, _, rfl, .refl _⟩, ⟨rfl, rfl, _, rfl, RowLe.of_eq (by simp [mkL]; rfl)⟩, trivial⟩) ?_
      intro i hi
      refine wc_of ?_;refine sR ?_;refine rC ?_;refine nQ ?_
      refine wc_cond rfl (fun h3 => ?_) (fun h3 => ?_)
      · have hlt : i < l.length + 1 := by have := of_decide_eq_true h3; omega
        obtain ⟨x, hx⟩ : ∃ x, (l ++ [p])[i]? = some x := ⟨_, List.getElem?_eq_getElem (by rw [hLl]; exact hlt)⟩
        have hxl : x.length ≤ 1048576 := by
          have := c2 x (List.mem_of_getElem? hx)
          simp only [badP, Bool.or_eq_false_iff, decide_eq_false_iff_not] at this
          omega
        have hgx : (mkL (l ++ [p]) i)[((i : Int)).toNat]? = some (false, x) := by rw [Int.toNat_natCast]; exact mkL_get hx
        have hset := mkL_set hx
        have hc1 := clone_is x hxl
        have hc2 := clip_is x
        refine kS ?_;refine wc_seq ?_;refine wc_block ?_;refine sR ?_;iterate 2 refine rC ?_
        refine nS ?_;refine wc_draw (by kernel_rfl) ?_;refine dQ [2] [65, 68] iM ?_;refine dC [11] [] ?_;refine dQ [2] [65, 68] iM ?_;refine dC [11] [] ?_;refine dQ [45, 46] [68] (index_own tab_ok rfl rfl rfl rfl rfl (by omega) (by omega)) ?_
        refine dQ [47] [68] (load_row tab_ok rfl rfl ⟨rfl, (false, x), hgx, _, rfl, rfl⟩ rfl) ?_;refine dQ [48] [] (call_r hc1 rfl rfl (arg_e arg_nil) (.inl rfl) (fun _ => rfl)) ?_
        refine dQ [49] [] (call_r hc2 rfl rfl (arg_e arg_nil) (.inl rfl) (fun _ => rfl)) ?_;refine dQ [43, 44] [68] (index_own tab_ok rfl rfl rfl rfl rfl (by omega) (by omega)) ?_
        refine dreg_s [51, 50] [68] (store_row tab_ok rfl rfl rfl ⟨rfl, (false, x), (true, x), hgx, ⟨rfl, rfl, rfl⟩, rfl⟩ rfl) ?_;refine dreg_end (by kernel_rfl) ?_;refine blk_n ?_
        refine seq_n ?_;refine wc_region ?_;refine rQ iD ?_;refine rC ?_;refine reg_nil ?_
        exact loop_n (i + 1) [] hlt (by omega) (.of rfl rfl rfl rfl rfl ⟨⟨_, rfl, .refl _⟩, rfl, ⟨_, rfl, .refl _⟩, rfl, ⟨_, rfl, .refl _⟩, rfl, trivial⟩ ⟨⟨rfl, rfl, _, rfl, .refl _⟩, ⟨rfl, rfl, _, rfl, RowLe.of_eq (congrArg (Row.ds 77 1 false enc2) hset)⟩, trivial⟩)
      · have he : i = l.length + 1 := by have := of_decide_eq_false h3; omega
        subst he
        have hml : l.length + 1 = (mkL (l ++ [p]) (l.length + 1)).length := by rw [mkL_len, hLl]
        have hmk : mkL (l ++ [p]) (l.length + 1) = (l ++ [p]).map (fun p => (true, p)) := by rw [mkL, ← hLl, List.take_length, List.drop_length]; simp
        refine wc_exit ?_;refine seq_x ?_;refine loop_x ?_;refine blk_x ?_;refine seq_n ?_;refine sR ?_;refine rQ iM ?_;refine reg_freeze (env' := [(53, _), (2, _)]) (h' := [(65, some _)]) 68 _ rfl ⟨⟨_, rfl, Frz.le (y := .d (.arr 1 encXP (l ++ [p]))) (Frz.own hml) rfl (fun _ => rfl) (fun _ _ => trivial) (arr_map (enc' := encXP) (xs := l ++ [p]) (g := fun p => (true, p)) hmk (fun _ => rfl))⟩, ⟨_, rfl, .refl _⟩, trivial⟩ ⟨⟨rfl, _, rfl, .refl _⟩, trivial⟩ ?_
        refine rQ (call_r hcl rfl rfl (arg_e arg_nil) (.inl rfl) (fun _ => rfl)) ?_;refine rQ (call_r hcp rfl rfl (arg_e arg_nil) (.inl rfl) (fun _ => rfl)) ?_;refine rW ?_
        iterate 2 refine rC ?_
        refine nS ?_;refine wc_ret ?_
        exact ⟨trivial, _, rfl, [], lf⟩
  have hs1 : (!decide (s = [])) = true := by rw [decide_eq_false hs]; rfl
  cases hcut : cutL s 10 with
  | none =>
    have hR : parseP s0 [] 1 = ([], n, 5) := by rw [← hp, parseP_none _ _ hs hcut]
    have hc := cut_is (l := s) (c := 10) (by omega)
    rw [show cutA s 10 = (s, [], false) by simp only [cutA, hcut]] at hc
    rw [hR]
    cases q with
    | none =>
      refine wc_of ?_;refine qR ?_;refine rC ?_;refine rQ (neq_s (a := s) (b := []) tab_ok rfl rfl rfl) ?_;refine nS ?_;refine wT ?_;refine kS ?_;refine wc_seq ?_;refine wc_block ?_
      refine sR ?_;refine rC ?_;refine rQ (call_r hc rfl rfl (arg_e (arg_e arg_nil)) (.inl rfl) (fun _ => rfl)) ?_;iterate 7 refine rC ?_
      refine nQ ?_;refine sR ?_;iterate 2 refine rC ?_
      refine nS ?_;refine wV ?_;refine sR ?_;refine rC ?_;refine rW ?_;iterate 2 refine rC ?_
      refine nS ?_;refine wc_ret ?_;refine seq_r ?_;refine blk_r ?_;refine seq_r ?_;refine loop_r ?_;refine blk_r ?_;refine seq_r ?_
      exact ⟨trivial, _, rfl, [], .of rfl rfl rfl rfl rfl ⟨⟨_, rfl, AVLe.tup1 (nil_arx _ _) rfl⟩, rfl, trivial⟩ trivial⟩
    | some lp =>
      obtain ⟨l, p⟩ := lp
      refine wc_of ?_;refine qR ?_;refine rC ?_;refine rQ (neq_s (a := s) (b := []) tab_ok rfl rfl rfl) ?_;refine nS ?_;refine wT ?_;refine kS ?_;refine wc_seq ?_;refine wc_block ?_
      refine sR ?_;refine rC ?_;refine rQ (call_r hc rfl rfl (arg_e (arg_e arg_nil)) (.inl rfl) (fun _ => rfl)) ?_;iterate 7 refine rC ?_
      refine nQ ?_;refine sR ?_;iterate 2 refine rC ?_
      refine nS ?_;refine wV ?_;refine sR ?_;refine rC ?_;refine rW ?_;iterate 2 refine rC ?_
      refine nS ?_;refine wc_ret ?_;refine seq_r ?_;refine blk_r ?_;refine seq_r ?_;refine loop_r ?_;refine blk_r ?_;refine seq_r ?_
      exact ⟨trivial, _, rfl, [], .of rfl rfl rfl rfl rfl ⟨⟨_, rfl, AVLe.tup1 (nil_arx _ _) rfl⟩, rfl, trivial⟩ trivial⟩
  | some tr =>
    obtain ⟨tx, rest⟩ := tr
    have hlen := cut_len hcut
    have hc := cut_is (l := s) (c := 10) (by omega)
    rw [show cutA s 10 = (tx, rest, true) by simp only [cutA, hcut]] at hc
    have hP := parseP_some (toL q) n hs hcut
    rw [hp] at hP
    cases q with
    | none =>
      by_cases ht : tx = sClient
      · have hadd0 := add_client0 tx ht
        have hA : addP (toL none) tx = ([[]], 0) := by simp [addP, ht, toL]
        have hR : parseP s0 [] 1 = parseP rest (toL (some ([], []))) (n + 1) := by rw [hP, hA]; rfl
        refine wc_of ?_;refine qR ?_;refine rC ?_;refine rQ (neq_s (a := s) (b := []) tab_ok rfl rfl rfl) ?_;refine nS ?_;refine wT ?_;refine kS ?_;refine wc_seq ?_;refine wc_block ?_
        refine sR ?_;refine rC ?_;refine rQ (call_r hc rfl rfl (arg_e (arg_e arg_nil)) (.inl rfl) (fun _ => rfl)) ?_;iterate 7 refine rC ?_
        refine nQ ?_;refine sR ?_;iterate 2 refine rC ?_
        refine nS ?_;refine wG ?_;refine kS ?_;refine qR ?_;iterate 2 refine rC ?_
        refine reg_do rfl (call_h [(0, some 65), (1, some 66), (2, some 67), (3, some 68)] hadd0 rfl rfl rfl (arg_e (arg_ptr rfl rfl (arg_ptr rfl rfl arg_nil))) ⟨⟨rfl, rfl, _, _, rfl, rfl, .refl _⟩, ⟨rfl, rfl, _, _, rfl, rfl, .refl _⟩, ⟨rfl, rfl, _, _, rfl, rfl, .refl _⟩, ⟨rfl, rfl, _, _, rfl, rfl, .refl _⟩, trivial⟩ rfl rfl (.inl rfl) rfl rfl) rfl rfl ?_
        refine rC ?_;refine nR ?_;iterate 2 refine rC ?_
        refine nS ?_;refine wG ?_;refine kS ?_;refine wc_region ?_;iterate 2 refine rC ?_
        refine reg_nil ?_;refine blk_n ?_;refine seq_n ?_;refine wc_region ?_;refine rC ?_;refine rQ iD ?_;refine rC ?_;refine reg_nil ?_
        exact loop_n (some ([], []), rest, n + 1) [(68, some 192), (69, some 193)] ⟨by rw [← hR], add_chk hc0 hA, add_ok hok hA, by omega, by omega⟩ (by show rest.length < s.length; omega) (.of rfl rfl rfl rfl rfl ⟨⟨_, rfl, .refl _⟩, rfl, ⟨_, rfl, .refl _⟩, rfl, ⟨_, rfl, .refl _⟩, rfl, ⟨_, rfl, .refl _⟩, rfl, trivial⟩ ⟨⟨rfl, rfl, _, rfl, .refl _⟩, ⟨rfl, rfl, _, rfl, .refl _⟩, ⟨rfl, rfl, _, rfl, .refl _⟩, ⟨rfl, chM_lt rfl _, _, rfl, leaf_ren rfl rfl rfl⟩, ⟨rfl, rfl, _, rfl, .refl _⟩, trivial⟩)
      · obtain ⟨h5, hadd0⟩ := add_none ht (by omega)
        have hR : parseP s0 [] 1 = ([], n, 5) := by
          rw [hP, show toL none = [] from rfl, h5]
          rfl
        rw [hR]
        refine wc_of ?_;refine qR ?_;refine rC ?_;refine rQ (neq_s (a := s) (b := []) tab_ok rfl rfl rfl) ?_;refine nS ?_;refine wT ?_;refine kS ?_;refine wc_seq ?_;refine wc_block ?_
        refine sR ?_;refine rC ?_;refine rQ (call_r hc rfl rfl (arg_e (arg_e arg_nil)) (.inl rfl) (fun _ => rfl)) ?_;iterate 7 refine rC ?_
        refine nQ ?_;refine sR ?_;iterate 2 refine rC ?_
        refine nS ?_;refine wG ?_;refine kS ?_;refine qR ?_;iterate 2 refine rC ?_
        refine reg_do rfl (call_h [(0, some 65), (1, some 66), (2, some 67), (3, some 68)] hadd0 rfl rfl rfl (arg_e (arg_ptr rfl rfl (arg_ptr rfl rfl arg_nil))) ⟨⟨rfl, rfl, _, _, rfl, rfl, .refl _⟩, ⟨rfl, rfl, _, _, rfl, rfl, .refl _⟩, ⟨rfl, rfl, _, _, rfl, rfl, .refl _⟩, ⟨rfl, rfl, _, _, rfl, rfl, .refl _⟩, trivial⟩ rfl rfl (.inl rfl) rfl rfl) rfl rfl ?_
        refine rC ?_;refine nR ?_;iterate 2 refine rC ?_
        refine nS ?_;refine wV ?_;refine sR ?_;iterate 2 refine rC ?_
        refine rW ?_;iterate 2 refine rC ?_
        refine nS ?_;refine wc_ret ?_;refine seq_r ?_;refine blk_r ?_;refine seq_r ?_;refine loop_r ?_;refine blk_r ?_;refine seq_r ?_
        exact ⟨trivial, _, rfl, [], .of rfl rfl rfl rfl rfl ⟨⟨_, rfl, AVLe.tup1 (nil_arx _ _) rfl⟩, rfl, trivial⟩ trivial⟩
    | some lp =>
      obtain ⟨l, p⟩ := lp
      obtain ⟨c1, c2⟩ := chkP_ok.1 hc0
      have hl8 : l.length + 1 ≤ 8 := by simpa [toL] using c1
      have hp64 : p.length ≤ 64 := by
        have := c2 p (by simp [toL])
        simp only [badP, Bool.or_eq_false_iff, decide_eq_false_iff_not] at this
        omega
      by_cases ht : tx = sClient
      · have hadd1 := add_client1 tx ht l p (by omega)
        by_cases hg : 8 < l.length + 2
        · rw [if_pos hg] at hadd1
          have hR : parseP s0 [] 1 = ([], n, 3) := by
            have h3 : (addP (toL (some (l, p))) tx).2 = 3 := by
              rw [show toL (some (l, p)) = l ++ [p] from rfl, addP, if_pos ht, if_pos (by simp; omega)]
            rw [hP, h3]
            rfl
          rw [hR]
          refine wc_of ?_;refine qR ?_;refine rC ?_;refine rQ (neq_s (a := s) (b := []) tab_ok rfl rfl rfl) ?_;refine nS ?_;refine wT ?_;refine kS ?_;refine wc_seq ?_;refine wc_block ?_
          refine sR ?_;refine rC ?_;refine rQ (call_r hc rfl rfl (arg_e (arg_e arg_nil)) (.inl rfl) (fun _ => rfl)) ?_;iterate 7 refine rC ?_
          refine nQ ?_;refine sR ?_;iterate 2 refine rC ?_
          refine nS ?_;refine wG ?_;refine kS ?_;refine qR ?_;iterate 2 refine rC ?_
          refine reg_do rfl (call_h [(0, some 65), (1, some 66), (2, some 67), (3, some 68), (4, some 69)] hadd1 rfl rfl rfl (arg_e (arg_ptr rfl rfl (arg_ptr rfl rfl arg_nil))) ⟨⟨rfl, rfl, _, _, rfl, rfl, .refl _⟩, ⟨rfl, rfl, _, _, rfl, rfl, .refl _⟩, ⟨rfl, rfl, _, _, rfl, rfl, .refl _⟩, ⟨rfl, chM_lt rfl _, _, _, rfl, rfl, leaf_keep rfl rfl⟩, ⟨rfl, rfl, _, _, rfl, rfl, .refl _⟩, trivial⟩ rfl rfl (.inl rfl) rfl rfl) rfl rfl ?_
          refine rC ?_;refine nR ?_;iterate 2 refine rC ?_
          refine nS ?_;refine wV ?_;refine sR ?_;iterate 2 refine rC ?_
          refine rW ?_;iterate 2 refine rC ?_
          refine nS ?_;refine wc_ret ?_;refine seq_r ?_;refine blk_r ?_;refine seq_r ?_;refine loop_r ?_;refine blk_r ?_;refine seq_r ?_
          exact ⟨trivial, _, rfl, [], .of rfl rfl rfl rfl rfl ⟨⟨_, rfl, AVLe.tup1 (nil_arx _ _) rfl⟩, rfl, trivial⟩ trivial⟩
        · rw [if_neg hg] at hadd1
          have hA : addP (toL (some (l, p))) tx = (toL (some (l ++ [p], [])), 0) := by
            rw [show toL (some (l, p)) = l ++ [p] from rfl, addP, if_pos ht, if_neg (by simp; omega)]
            rfl
          have hR : parseP s0 [] 1 = parseP rest (toL (some (l ++ [p], []))) (n + 1) := by rw [hP, hA]; rfl
          refine wc_of ?_;refine qR ?_;refine rC ?_;refine rQ (neq_s (a := s) (b := []) tab_ok rfl rfl rfl) ?_;refine nS ?_;refine wT ?_;refine kS ?_;refine wc_seq ?_;refine wc_block ?_
          refine sR ?_;refine rC ?_;refine rQ (call_r hc rfl rfl (arg_e (arg_e arg_nil)) (.inl rfl) (fun _ => rfl)) ?_;iterate 7 refine rC ?_
          refine nQ ?_;refine sR ?_;iterate 2 refine rC ?_
          refine nS ?_;refine wG ?_;refine kS ?_;refine qR ?_;iterate 2 refine rC ?_
          refine reg_do rfl (call_h [(0, some 65), (1, some 66), (2, some 67), (3, some 68), (4, some 69)] hadd1 rfl rfl rfl (arg_e (arg_ptr rfl rfl (arg_ptr rfl rfl arg_nil))) ⟨⟨rfl, rfl, _, _, rfl, rfl, .refl _⟩, ⟨rfl, rfl, _, _, rfl, rfl, .refl _⟩, ⟨rfl, rfl, _, _, rfl, rfl, .refl _⟩, ⟨rfl, chM_lt rfl _, _, _, rfl, rfl, leaf_keep rfl rfl⟩, ⟨rfl, rfl, _, _, rfl, rfl, .refl _⟩, trivial⟩ rfl rfl (.inl rfl) rfl rfl) rfl rfl ?_
          refine rC ?_;refine nR ?_;iterate 2 refine rC ?_
          refine nS ?_;refine wG ?_;refine kS ?_;refine wc_region ?_;iterate 2 refine rC ?_
          refine reg_nil ?_;refine blk_n ?_;refine seq_n ?_;refine wc_region ?_;refine rC ?_;refine rQ iD ?_;refine rC ?_;refine reg_nil ?_
          exact loop_n (some (l ++ [p], []), rest, n + 1) [(68, some 192), (69, some 193)] ⟨by rw [← hR], add_chk hc0 hA, add_ok hok hA, by omega, by omega⟩ (by show rest.length < s.length; omega) (.of rfl rfl rfl rfl rfl ⟨⟨_, rfl, .refl _⟩, rfl, ⟨_, rfl, .refl _⟩, rfl, ⟨_, rfl, .refl _⟩, rfl, ⟨_, rfl, .refl _⟩, rfl, trivial⟩ ⟨⟨rfl, rfl, _, rfl, .refl _⟩, ⟨rfl, rfl, _, rfl, .refl _⟩, ⟨rfl, rfl, _, rfl, .refl _⟩, ⟨rfl, chM_lt rfl _, _, rfl, leaf_ren rfl rfl rfl⟩, ⟨rfl, rfl, _, rfl, .refl _⟩, trivial⟩)
      · rcases add_some ht (by omega) l p (by omega) (by omega) with ⟨e, he, h5, hadd1 | ⟨o, hadd1⟩⟩ | ⟨o, hA, hadd1⟩
        · have hne : (!decide (e = 0)) = true := by rw [decide_eq_false he]; rfl
          have hR : parseP s0 [] 1 = ([], n, e) := by
            rw [hP, show toL (some (l, p)) = l ++ [p] from rfl, h5, if_neg he]
          rw [hR]
          refine wc_of ?_;refine qR ?_;refine rC ?_;refine rQ (neq_s (a := s) (b := []) tab_ok rfl rfl rfl) ?_;refine nS ?_;refine wT ?_;refine kS ?_;refine wc_seq ?_;refine wc_block ?_
          refine sR ?_;refine rC ?_;refine rQ (call_r hc rfl rfl (arg_e (arg_e arg_nil)) (.inl rfl) (fun _ => rfl)) ?_;iterate 7 refine rC ?_
          refine nQ ?_;refine sR ?_;iterate 2 refine rC ?_
          refine nS ?_;refine wG ?_;refine kS ?_;refine qR ?_;iterate 2 refine rC ?_
          refine reg_do rfl (call_h [(0, some 65), (1, some 66), (2, some 67), (3, some 68), (4, some 69)] hadd1 rfl rfl rfl (arg_e (arg_ptr rfl rfl (arg_ptr rfl rfl arg_nil))) ⟨⟨rfl, rfl, _, _, rfl, rfl, .refl _⟩, ⟨rfl, rfl, _, _, rfl, rfl, .refl _⟩, ⟨rfl, rfl, _, _, rfl, rfl, .refl _⟩, ⟨rfl, chM_lt rfl _, _, _, rfl, rfl, leaf_keep rfl rfl⟩, ⟨rfl, rfl, _, _, rfl, rfl, .refl _⟩, trivial⟩ rfl rfl (.inl rfl) rfl rfl) rfl rfl ?_
          refine rC ?_;refine nR ?_;iterate 2 refine rC ?_
          refine nS ?_;refine wT ?_;refine sR ?_;iterate 2 refine rC ?_
          refine rW ?_;iterate 2 refine rC ?_
          refine nS ?_;refine wc_ret ?_;refine seq_r ?_;refine blk_r ?_;refine seq_r ?_;refine loop_r ?_;refine blk_r ?_;refine seq_r ?_
          exact ⟨trivial, _, rfl, [], .of rfl rfl rfl rfl rfl ⟨⟨_, rfl, AVLe.tup1 (nil_arx _ _) rfl⟩, rfl, trivial⟩ trivial⟩
        · have hne : (!decide (e = 0)) = true := by rw [decide_eq_false he]; rfl
          have hR : parseP s0 [] 1 = ([], n, e) := by
            rw [hP, show toL (some (l, p)) = l ++ [p] from rfl, h5, if_neg he]
          rw [hR]
          refine wc_of ?_;refine qR ?_;refine rC ?_;refine rQ (neq_s (a := s) (b := []) tab_ok rfl rfl rfl) ?_;refine nS ?_;refine wT ?_;refine kS ?_;refine wc_seq ?_;refine wc_block ?_
          refine sR ?_;refine rC ?_;refine rQ (call_r hc rfl rfl (arg_e (arg_e arg_nil)) (.inl rfl) (fun _ => rfl)) ?_;iterate 7 refine rC ?_
          refine nQ ?_;refine sR ?_;iterate 2 refine rC ?_
          refine nS ?_;refine wG ?_;refine kS ?_;refine qR ?_;iterate 2 refine rC ?_
          refine reg_do rfl (call_h [(0, some 65), (1, some 66), (2, some 67), (3, some 68), (4, some 69)] hadd1 rfl rfl rfl (arg_e (arg_ptr rfl rfl (arg_ptr rfl rfl arg_nil))) ⟨⟨rfl, rfl, _, _, rfl, rfl, .refl _⟩, ⟨rfl, rfl, _, _, rfl, rfl, .refl _⟩, ⟨rfl, rfl, _, _, rfl, rfl, .refl _⟩, ⟨rfl, chM_lt rfl _, _, _, rfl, rfl, leaf_keep rfl rfl⟩, ⟨rfl, rfl, _, _, rfl, rfl, .refl _⟩, trivial⟩ rfl rfl (.inl rfl) rfl rfl) rfl rfl ?_
          refine rC ?_;refine nR ?_;iterate 2 refine rC ?_
          refine nS ?_;refine wT ?_;refine sR ?_;iterate 2 refine rC ?_
          refine rW ?_;iterate 2 refine rC ?_
          refine nS ?_;refine wc_ret ?_;refine seq_r ?_;refine blk_r ?_;refine seq_r ?_;refine loop_r ?_;refine blk_r ?_;refine seq_r ?_
          exact ⟨trivial, _, rfl, [], .of rfl rfl rfl rfl rfl ⟨⟨_, rfl, AVLe.tup1 (nil_arx _ _) rfl⟩, rfl, trivial⟩ trivial⟩
        · replace hA : addP (toL (some (l, p))) tx = (toL (some (l, p ++ [o])), 0) := hA
          have hR : parseP s0 [] 1 = parseP rest (toL (some (l, p ++ [o]))) (n + 1) := by rw [hP, hA]; rfl
          refine wc_of ?_;refine qR ?_;refine rC ?_;refine rQ (neq_s (a := s) (b := []) tab_ok rfl rfl rfl) ?_;refine nS ?_;refine wT ?_;refine kS ?_;refine wc_seq ?_;refine wc_block ?_
          refine sR ?_;refine rC ?_;refine rQ (call_r hc rfl rfl (arg_e (arg_e arg_nil)) (.inl rfl) (fun _ => rfl)) ?_;iterate 7 refine rC ?_
          refine nQ ?_;refine sR ?_;iterate 2 refine rC ?_
          refine nS ?_;refine wG ?_;refine kS ?_;refine qR ?_;iterate 2 refine rC ?_
          refine reg_do rfl (call_h [(0, some 65), (1, some 66), (2, some 67), (3, some 68), (4, some 69)] hadd1 rfl rfl rfl (arg_e (arg_ptr rfl rfl (arg_ptr rfl rfl arg_nil))) ⟨⟨rfl, rfl, _, _, rfl, rfl, .refl _⟩, ⟨rfl, rfl, _, _, rfl, rfl, .refl _⟩, ⟨rfl, rfl, _, _, rfl, rfl, .refl _⟩, ⟨rfl, chM_lt rfl _, _, _, rfl, rfl, leaf_keep rfl rfl⟩, ⟨rfl, rfl, _, _, rfl, rfl, .refl _⟩, trivial⟩ rfl rfl (.inl rfl) rfl rfl) rfl rfl ?_
          refine rC ?_;refine nR ?_;iterate 2 refine rC ?_
          refine nS ?_;refine wG ?_;refine kS ?_;refine wc_region ?_;iterate 2 refine rC ?_
          refine reg_nil ?_;refine blk_n ?_;refine seq_n ?_;refine wc_region ?_;refine rC ?_;refine rQ iD ?_;refine rC ?_;refine reg_nil ?_
          exact loop_n (some (l, p ++ [o]), rest, n + 1) [(69, some 193)] ⟨by rw [← hR], add_chk hc0 hA, add_ok hok hA, by omega, by omega⟩ (by show rest.length < s.length; omega) (.of rfl rfl rfl rfl rfl ⟨⟨_, rfl, .refl _⟩, rfl, ⟨_, rfl, .refl _⟩, rfl, ⟨_, rfl, .refl _⟩, rfl, ⟨_, rfl, .refl _⟩, rfl, trivial⟩ ⟨⟨rfl, rfl, _, rfl, .refl _⟩, ⟨rfl, rfl, _, rfl, .refl _⟩, ⟨rfl, rfl, _, rfl, .refl _⟩, ⟨rfl, chM_lt rfl _, _, rfl, leaf_ren rfl rfl rfl⟩, ⟨rfl, rfl, _, rfl, .refl _⟩, trivial⟩)
theorem parse_is (s : List UInt8) (hl : s.length ≤ 1048576) : FnIs Tryz.prog 47 [.d (strD s)] [] (parR (parseP s [] 1).1 (parseP s [] 1).2.1 (parseP s [] 1).2.2) [] := parse_main s hl
end Go.Proofs.YtmojbghcngdkpaaGreatDoor

namespace Go.Proofs.YtmojbghcngdkpaaGreatDoor
open Go.Eng Go.Plain
set_option maxHeartbeats 4000000
set_option maxRecDepth 20000
attribute [local irreducible] WC RegS RegD SeqQ BlkQ ScoQ RegK CutK Sat SatN FnIs LoopQ StepIs OpIs
def outO (o : POp) (b : Int) : Bool := decide (o.index < 0) || decide (b ≤ o.index)
def badO (o : POp) (b : Int) : Bool := if o.kind = 1 then outO o b else if o.kind = 2 then outO o b || !decide (o.data.length = 32) else !decide (o.kind = 3)
theorem len32 (o : POp) : decide (((byI o.data).length : Int) = 32) = decide (o.data.length = 32) := by
  rw [byI_len]
  by_cases h : o.data.length = 32
  · rw [decide_eq_true h, decide_eq_true (by omega)]
  · rw [decide_eq_false h, decide_eq_false (by omega)]
end Go.Proofs.YtmojbghcngdkpaaGreatDoor

namespace Go.Proofs.YtmojbghcngdkpaaGreatDoor
open Go.Eng Go.Plain
set_option maxHeartbeats 4000000
set_option maxRecDepth 20000
attribute [local irreducible] WC RegS RegD SeqQ BlkQ ScoQ RegK CutK Sat SatN FnIs LoopQ StepIs OpIs
def preO (l : List (List POp)) (i : Nat) (p : List POp) (j : Nat) : List POp := (l.take i).flatten ++ p.take j
def cK (k : Int) (l : List POp) : Nat := l.countP fun o => decide (o.kind = k)
def cO (l : List POp) : Nat := l.countP fun o => !decide (o.kind = 1) && !decide (o.kind = 2) && !decide (o.kind = 3)
end Go.Proofs.YtmojbghcngdkpaaGreatDoor

namespace Go.Proofs.YtmojbghcngdkpaaGreatDoor
open Go.Eng Go.Plain
set_option maxHeartbeats 4000000
set_option maxRecDepth 20000
attribute [local irreducible] WC RegS RegD SeqQ BlkQ ScoQ RegK CutK Sat SatN FnIs LoopQ StepIs OpIs
theorem beq_is (a b : List UInt8) : FnIs Tryz.prog 77 [.d (encB a), .d (encB b)] [] (.bool (decide (a = b))) [] := by
  refine fnIs_of tab_ok Tryz.func77 rfl rfl rfl ?_;refine sR ?_;refine rC ?_;refine nR ?_;refine rC ?_;refine rQ (conv_bytes tab_ok rfl rfl rfl rfl) ?_;refine rC ?_
  refine rQ (conv_bytes tab_ok rfl rfl rfl rfl) ?_;refine rQ (eql_str tab_ok rfl rfl rfl) ?_;refine rC ?_;refine nS ?_;refine wc_ret ?_
  rw [← mkS_dec, ← strOf_byI, ← strOf_byI]
  exact ⟨trivial, [], lf⟩
theorem op_dec (x y : POp) : decide (x = y) = (decide (x.kind = y.kind) && decide (x.index = y.index) && decide (x.data = y.data)) := by
  obtain ⟨a, b, c⟩ := x
  obtain ⟨d, e, f⟩ := y
  by_cases h1 : a = d <;> by_cases h2 : b = e <;> by_cases h3 : c = f <;> simp [h1, h2, h3]
end Go.Proofs.YtmojbghcngdkpaaGreatDoor

namespace Go.Proofs.YtmojbghcngdkpaaGreatDoor
open Go.Eng Go.Plain
set_option maxHeartbeats 4000000
set_option maxRecDepth 20000
attribute [local irreducible] WC RegS RegD SeqQ BlkQ ScoQ RegK CutK Sat SatN FnIs LoopQ StepIs OpIs
abbrev sRow : List (Nat × Row) := [(0, .box 165 (fnA 100))]
end Go.Proofs.YtmojbghcngdkpaaGreatDoor

namespace Go.Proofs.YtmojbghcngdkpaaGreatDoor
open Go.Eng Go.Plain
set_option maxHeartbeats 4000000
set_option maxRecDepth 20000
attribute [local irreducible] WC RegS RegD SeqQ BlkQ ScoQ RegK CutK Sat SatN FnIs LoopQ StepIs OpIs
theorem str_dec (a b : List UInt8) : decide (strOf (byI a) = strOf (byI b)) = decide (a = b) := by rw [strOf_byI, strOf_byI, mkS_dec]
theorem requal_w (x y : POp) (c1 c2 c3 : Bool) (h1 : (!decide (x.kind = y.kind)) = !c1) (h2 : (!decide (x.index = y.index)) = !c2) (h3 : (!decide (strOf (byI x.data) = strOf (byI y.data))) = !c3) : FnIs Tryz.prog 67 [.d (encPOp x), .d (encPOp y)] [] (.d (i6 (if (c1 && c2 && c3) = true then 1 else 0))) [] := by
  refine fnIs_of tab_ok Tryz.func67 rfl rfl rfl ?_
  cases c1 <;> cases c2 <;> cases c3
  · refine sR ?_;iterate 2 refine rN ?_
    refine rC ?_;refine nQ ?_;refine sR ?_;refine rC ?_;refine rQ iB ?_;refine rC ?_;refine rQ iB ?_;iterate 2 refine rC ?_
    iterate 5 refine rS ?_
    refine rQ iT ?_;refine rC ?_;iterate 7 refine rT ?_
    refine rQ iU ?_;refine nS ?_;refine wV ?_;refine sR ?_;refine rC ?_;refine nS ?_;refine wc_ret ?_;refine seq_r ?_
    exact ⟨trivial, [], lf⟩
  · refine sR ?_;iterate 2 refine rN ?_
    refine rC ?_;refine nQ ?_;refine sR ?_;refine rC ?_;refine rQ iB ?_;refine rC ?_;refine rQ iB ?_;iterate 2 refine rC ?_
    iterate 5 refine rS ?_
    refine rQ iT ?_;refine rC ?_;iterate 7 refine rT ?_
    refine rQ iU ?_;refine nS ?_;refine wV ?_;refine sR ?_;refine rC ?_;refine nS ?_;refine wc_ret ?_;refine seq_r ?_
    exact ⟨trivial, [], lf⟩
  · refine sR ?_;iterate 2 refine rN ?_
    refine rC ?_;refine nQ ?_;refine sR ?_;refine rC ?_;refine rQ iB ?_;refine rC ?_;refine rQ iB ?_;iterate 2 refine rC ?_
    iterate 5 refine rS ?_
    refine rQ iT ?_;refine rC ?_;iterate 7 refine rT ?_
    refine rQ iU ?_;refine nS ?_;refine wV ?_;refine sR ?_;refine rC ?_;refine nS ?_;refine wc_ret ?_;refine seq_r ?_
    exact ⟨trivial, [], lf⟩
  · refine sR ?_;iterate 2 refine rN ?_
    refine rC ?_;refine nQ ?_;refine sR ?_;refine rC ?_;refine rQ iB ?_;refine rC ?_;refine rQ iB ?_;iterate 2 refine rC ?_
    iterate 5 refine rS ?_
    refine rQ iT ?_;refine rC ?_;iterate 7 refine rT ?_
    refine rQ iU ?_;refine nS ?_;refine wV ?_;refine sR ?_;refine rC ?_;refine nS ?_;refine wc_ret ?_;refine seq_r ?_
    exact ⟨trivial, [], lf⟩
  · refine sR ?_;iterate 2 refine rN ?_
    refine rC ?_;refine nQ ?_;refine sR ?_;refine rC ?_;refine rQ iB ?_;refine rC ?_;refine rQ iB ?_;iterate 2 refine rC ?_
    refine rO ?_;refine rC ?_;refine rO ?_;refine rQ iB ?_;refine rO ?_;refine rC ?_;refine rO ?_;refine rQ iB ?_;refine rO ?_;refine rC ?_;refine rQ iF ?_;refine rC ?_
    iterate 7 refine rS ?_
    refine rQ iT ?_;refine nS ?_;refine wV ?_;refine sR ?_;refine rC ?_;refine nS ?_;refine wc_ret ?_;refine seq_r ?_
    exact ⟨trivial, [], lf⟩
  · refine sR ?_;iterate 2 refine rN ?_
    refine rC ?_;refine nQ ?_;refine sR ?_;refine rC ?_;refine rQ iB ?_;refine rC ?_;refine rQ iB ?_;iterate 2 refine rC ?_
    refine rO ?_;refine rC ?_;refine rO ?_;refine rQ iB ?_;refine rO ?_;refine rC ?_;refine rO ?_;refine rQ iB ?_;refine rO ?_;refine rC ?_;refine rQ iF ?_;refine rC ?_
    iterate 7 refine rS ?_
    refine rQ iT ?_;refine nS ?_;refine wV ?_;refine sR ?_;refine rC ?_;refine nS ?_;refine wc_ret ?_;refine seq_r ?_
    exact ⟨trivial, [], lf⟩
  · refine sR ?_;iterate 2 refine rN ?_
    refine rC ?_;refine nQ ?_;refine sR ?_;refine rC ?_;refine rQ iB ?_;refine rC ?_;refine rQ iB ?_;iterate 2 refine rC ?_
    refine rO ?_;refine rC ?_;refine rO ?_;refine rQ iB ?_;refine rO ?_;refine rC ?_;refine rO ?_;refine rQ iB ?_;refine rO ?_;refine rC ?_;refine rQ iF ?_;refine rC ?_
    refine rO ?_;refine rC ?_;refine rO ?_;refine rQ iB ?_;refine rO ?_;refine rQ (conv_bytes tab_ok rfl rfl rfl rfl) ?_;refine rO ?_;refine rC ?_;refine rO ?_;refine rQ iB ?_
    refine rO ?_;refine rQ (conv_bytes tab_ok rfl rfl rfl rfl) ?_;refine rO ?_;refine rQ (neq_str tab_ok rfl rfl rfl) ?_;refine rQ iF ?_;refine nS ?_;refine wT ?_;refine sR ?_
    refine rC ?_;refine nS ?_;refine wc_ret ?_;refine seq_r ?_
    exact ⟨trivial, [], lf⟩
  · refine sR ?_;iterate 2 refine rN ?_
    refine rC ?_;refine nQ ?_;refine sR ?_;refine rC ?_;refine rQ iB ?_;refine rC ?_;refine rQ iB ?_;iterate 2 refine rC ?_
    refine rO ?_;refine rC ?_;refine rO ?_;refine rQ iB ?_;refine rO ?_;refine rC ?_;refine rO ?_;refine rQ iB ?_;refine rO ?_;refine rC ?_;refine rQ iF ?_;refine rC ?_
    refine rO ?_;refine rC ?_;refine rO ?_;refine rQ iB ?_;refine rO ?_;refine rQ (conv_bytes tab_ok rfl rfl rfl rfl) ?_;refine rO ?_;refine rC ?_;refine rO ?_;refine rQ iB ?_
    refine rO ?_;refine rQ (conv_bytes tab_ok rfl rfl rfl rfl) ?_;refine rO ?_;refine rQ (neq_str tab_ok rfl rfl rfl) ?_;refine rQ iF ?_;refine nS ?_;refine wF ?_;refine kS ?_
    refine sR ?_;refine rC ?_;refine nS ?_;refine wc_ret ?_
    exact ⟨trivial, [], lf⟩
theorem requal_is (x y : POp) : FnIs Tryz.prog 67 [.d (encPOp x), .d (encPOp y)] [] (.d (i6 (if x = y then 1 else 0))) [] := by
  have := requal_w x y (decide (x.kind = y.kind)) (decide (x.index = y.index)) (decide (x.data = y.data)) rfl rfl (by rw [str_dec])
  rw [← op_dec] at this
  simpa using this
end Go.Proofs.YtmojbghcngdkpaaGreatDoor

namespace Go.Proofs.YtmojbghcngdkpaaGreatDoor
open Go.Eng Go.Plain
set_option maxHeartbeats 4000000
set_option maxRecDepth 20000
attribute [local irreducible] WC RegS RegD SeqQ BlkQ ScoQ RegK CutK Sat SatN FnIs LoopQ StepIs OpIs
end Go.Proofs.YtmojbghcngdkpaaGreatDoor

namespace Go.Proofs.YtmojbghcngdkpaaGreatDoor
open Go.Eng Go.Plain
set_option maxHeartbeats 4000000
set_option maxRecDepth 20000
attribute [local irreducible] WC RegS RegD SeqQ BlkQ ScoQ RegK CutK Sat SatN FnIs LoopQ StepIs OpIs
def SmallL (l : List (List POp)) : Prop := l.length ≤ 12 ∧ l.flatten.length ≤ 200 ∧ ∀ p ∈ l, p.length ≤ 66 ∧ ∀ o ∈ p, o.data.length ≤ 70
def smallB (l : List (List POp)) : Bool := decide (l.length ≤ 12) && decide (l.flatten.length ≤ 200) && l.all fun p => decide (p.length ≤ 66) && p.all fun o => decide (o.data.length ≤ 70)
end Go.Proofs.YtmojbghcngdkpaaGreatDoor

namespace Go.Proofs.YtmojbghcngdkpaaGreatDoor
open Go.Eng Go.Plain
set_option maxHeartbeats 4000000
set_option maxRecDepth 20000
attribute [local irreducible] WC RegS RegD SeqQ BlkQ ScoQ RegK CutK Sat SatN FnIs LoopQ StepIs OpIs
abbrev r01 (b : Bool) : AV := .d (i6 (if b = true then 1 else 0))
theorem rbad_read (o : POp) (b : Int) (hk : o.kind = 1) (c1 c2 c3 : Bool) (h1 : decide (0 ≤ o.index) = !c1) (h2 : decide (o.index < b) = !c2) (h3 : decide (((byI o.data).length : Int) = 32) = c3) : FnIs Tryz.prog 41 [.d (encPOp o), .int .i64 b] [] (r01 (c1 || c2)) [] := by
  have hk3 : decide (o.kind = 3) = false := decide_eq_false (by omega)
  have hk1 : decide (o.kind = 1) = true := decide_eq_true (by omega)
  refine fnIs_of tab_ok Tryz.func41 rfl rfl rfl ?_
  cases c1 <;> cases c2 <;> cases c3
  · refine sR ?_;refine rN ?_;refine rC ?_;refine nQ ?_;refine sR ?_;refine rC ?_;refine rQ iB ?_;refine nS ?_;refine wc_block ?_;refine sR ?_;iterate 2 refine rC ?_
    refine nS ?_;refine wF ?_;refine qR ?_;iterate 2 refine rC ?_
    refine nS ?_;refine wT ?_;refine kS ?_;refine wT ?_;refine sR ?_;refine rC ?_;refine rQ iB ?_;iterate 2 refine rC ?_
    refine rO ?_;refine rC ?_;refine rO ?_;refine rQ iB ?_;refine rO ?_;refine rC ?_;refine rO ?_;refine rC ?_;refine rQ iT ?_;refine rC ?_;refine rO ?_;refine rC ?_
    refine rO ?_;refine rQ iB ?_;refine rO ?_;refine rC ?_;refine rO ?_;refine rC ?_;iterate 4 refine rS ?_
    refine rO ?_;iterate 2 refine rQ iT ?_
    refine nS ?_;refine wV ?_;refine sR ?_;refine rC ?_;refine nS ?_;refine wc_ret ?_;refine blk_r ?_;refine seq_r ?_
    exact ⟨trivial, [], lf⟩
  · refine sR ?_;refine rN ?_;refine rC ?_;refine nQ ?_;refine sR ?_;refine rC ?_;refine rQ iB ?_;refine nS ?_;refine wc_block ?_;refine sR ?_;iterate 2 refine rC ?_
    refine nS ?_;refine wF ?_;refine qR ?_;iterate 2 refine rC ?_
    refine nS ?_;refine wT ?_;refine kS ?_;refine wT ?_;refine sR ?_;refine rC ?_;refine rQ iB ?_;iterate 2 refine rC ?_
    refine rO ?_;refine rC ?_;refine rO ?_;refine rQ iB ?_;refine rO ?_;refine rC ?_;refine rO ?_;refine rC ?_;refine rQ iT ?_;refine rC ?_;refine rO ?_;refine rC ?_
    refine rO ?_;refine rQ iB ?_;refine rO ?_;refine rC ?_;refine rO ?_;refine rC ?_;iterate 4 refine rS ?_
    refine rO ?_;iterate 2 refine rQ iT ?_
    refine nS ?_;refine wV ?_;refine sR ?_;refine rC ?_;refine nS ?_;refine wc_ret ?_;refine blk_r ?_;refine seq_r ?_
    exact ⟨trivial, [], lf⟩
  · refine sR ?_;refine rN ?_;refine rC ?_;refine nQ ?_;refine sR ?_;refine rC ?_;refine rQ iB ?_;refine nS ?_;refine wc_block ?_;refine sR ?_;iterate 2 refine rC ?_
    refine nS ?_;refine wF ?_;refine qR ?_;iterate 2 refine rC ?_
    refine nS ?_;refine wT ?_;refine kS ?_;refine wT ?_;refine sR ?_;refine rC ?_;refine rQ iB ?_;iterate 2 refine rC ?_
    refine rO ?_;refine rC ?_;refine rO ?_;refine rQ iB ?_;refine rO ?_;refine rC ?_;refine rO ?_;refine rC ?_;refine rQ iT ?_;refine rC ?_;iterate 4 refine rS ?_
    iterate 4 refine rU ?_
    refine rS ?_;refine rQ iF ?_;refine nS ?_;refine wG ?_;refine wc_skip ?_;refine blk_n ?_;refine seq_n ?_;refine sR ?_;refine rC ?_;refine nS ?_;refine wc_ret ?_
    exact ⟨trivial, [], lf⟩
  · refine sR ?_;refine rN ?_;refine rC ?_;refine nQ ?_;refine sR ?_;refine rC ?_;refine rQ iB ?_;refine nS ?_;refine wc_block ?_;refine sR ?_;iterate 2 refine rC ?_
    refine nS ?_;refine wF ?_;refine qR ?_;iterate 2 refine rC ?_
    refine nS ?_;refine wT ?_;refine kS ?_;refine wT ?_;refine sR ?_;refine rC ?_;refine rQ iB ?_;iterate 2 refine rC ?_
    refine rO ?_;refine rC ?_;refine rO ?_;refine rQ iB ?_;refine rO ?_;refine rC ?_;refine rO ?_;refine rC ?_;refine rQ iT ?_;refine rC ?_;iterate 4 refine rS ?_
    iterate 4 refine rU ?_
    refine rS ?_;refine rQ iF ?_;refine nS ?_;refine wG ?_;refine wc_skip ?_;refine blk_n ?_;refine seq_n ?_;refine sR ?_;refine rC ?_;refine nS ?_;refine wc_ret ?_
    exact ⟨trivial, [], lf⟩
  · refine sR ?_;refine rN ?_;refine rC ?_;refine nQ ?_;refine sR ?_;refine rC ?_;refine rQ iB ?_;refine nS ?_;refine wc_block ?_;refine sR ?_;iterate 2 refine rC ?_
    refine nS ?_;refine wF ?_;refine qR ?_;iterate 2 refine rC ?_
    refine nS ?_;refine wT ?_;refine kS ?_;refine wT ?_;refine sR ?_;refine rC ?_;refine rQ iB ?_;iterate 2 refine rC ?_
    iterate 4 refine rS ?_
    refine rQ iF ?_;refine rC ?_;iterate 4 refine rT ?_
    iterate 4 refine rU ?_
    refine rT ?_;refine rQ iG ?_;refine nS ?_;refine wG ?_;refine wc_skip ?_;refine blk_n ?_;refine seq_n ?_;refine sR ?_;refine rC ?_;refine nS ?_;refine wc_ret ?_
    exact ⟨trivial, [], lf⟩
  · refine sR ?_;refine rN ?_;refine rC ?_;refine nQ ?_;refine sR ?_;refine rC ?_;refine rQ iB ?_;refine nS ?_;refine wc_block ?_;refine sR ?_;iterate 2 refine rC ?_
    refine nS ?_;refine wF ?_;refine qR ?_;iterate 2 refine rC ?_
    refine nS ?_;refine wT ?_;refine kS ?_;refine wT ?_;refine sR ?_;refine rC ?_;refine rQ iB ?_;iterate 2 refine rC ?_
    iterate 4 refine rS ?_
    refine rQ iF ?_;refine rC ?_;iterate 4 refine rT ?_
    iterate 4 refine rU ?_
    refine rT ?_;refine rQ iG ?_;refine nS ?_;refine wG ?_;refine wc_skip ?_;refine blk_n ?_;refine seq_n ?_;refine sR ?_;refine rC ?_;refine nS ?_;refine wc_ret ?_
    exact ⟨trivial, [], lf⟩
  · refine sR ?_;refine rN ?_;refine rC ?_;refine nQ ?_;refine sR ?_;refine rC ?_;refine rQ iB ?_;refine nS ?_;refine wc_block ?_;refine sR ?_;iterate 2 refine rC ?_
    refine nS ?_;refine wF ?_;refine qR ?_;iterate 2 refine rC ?_
    refine nS ?_;refine wT ?_;refine kS ?_;refine wT ?_;refine sR ?_;refine rC ?_;refine rQ iB ?_;iterate 2 refine rC ?_
    iterate 4 refine rS ?_
    refine rQ iF ?_;refine rC ?_;iterate 4 refine rT ?_
    iterate 4 refine rU ?_
    refine rT ?_;refine rQ iG ?_;refine nS ?_;refine wG ?_;refine wc_skip ?_;refine blk_n ?_;refine seq_n ?_;refine sR ?_;refine rC ?_;refine nS ?_;refine wc_ret ?_
    exact ⟨trivial, [], lf⟩
  · refine sR ?_;refine rN ?_;refine rC ?_;refine nQ ?_;refine sR ?_;refine rC ?_;refine rQ iB ?_;refine nS ?_;refine wc_block ?_;refine sR ?_;iterate 2 refine rC ?_
    refine nS ?_;refine wF ?_;refine qR ?_;iterate 2 refine rC ?_
    refine nS ?_;refine wT ?_;refine kS ?_;refine wT ?_;refine sR ?_;refine rC ?_;refine rQ iB ?_;iterate 2 refine rC ?_
    iterate 4 refine rS ?_
    refine rQ iF ?_;refine rC ?_;iterate 4 refine rT ?_
    iterate 4 refine rU ?_
    refine rT ?_;refine rQ iG ?_;refine nS ?_;refine wG ?_;refine wc_skip ?_;refine blk_n ?_;refine seq_n ?_;refine sR ?_;refine rC ?_;refine nS ?_;refine wc_ret ?_
    exact ⟨trivial, [], lf⟩
theorem rbad_write (o : POp) (b : Int) (hk : o.kind = 2) (c1 c2 c3 : Bool) (h1 : decide (0 ≤ o.index) = !c1) (h2 : decide (o.index < b) = !c2) (h3 : decide (((byI o.data).length : Int) = 32) = c3) : FnIs Tryz.prog 41 [.d (encPOp o), .int .i64 b] [] (r01 (c1 || c2 || !c3)) [] := by
  have hk3 : decide (o.kind = 3) = false := decide_eq_false (by omega)
  have hk1 : decide (o.kind = 1) = false := decide_eq_false (by omega)
  have hk2 : decide (o.kind = 2) = true := decide_eq_true (by omega)
  refine fnIs_of tab_ok Tryz.func41 rfl rfl rfl ?_
  cases c1 <;> cases c2 <;> cases c3
  · refine sR ?_;refine rN ?_;refine rC ?_;refine nQ ?_;refine sR ?_;refine rC ?_;refine rQ iB ?_;refine nS ?_;refine wc_block ?_;refine sR ?_;iterate 2 refine rC ?_
    refine nS ?_;refine wF ?_;refine qR ?_;iterate 2 refine rC ?_
    refine nS ?_;refine wF ?_;refine wc_region ?_;iterate 2 refine rC ?_
    refine nS ?_;refine wT ?_;refine sR ?_;refine rC ?_;refine rQ iB ?_;iterate 2 refine rC ?_
    refine rO ?_;refine rC ?_;refine rO ?_;refine rQ iB ?_;refine rO ?_;refine rC ?_;refine rO ?_;refine rC ?_;refine rQ iT ?_;refine rC ?_;refine rO ?_;refine rC ?_
    refine rO ?_;refine rQ iB ?_;refine rO ?_;refine rC ?_;refine rO ?_;refine rC ?_;refine rO ?_;refine rC ?_;refine rO ?_;refine rQ iB ?_;refine rO ?_;refine rQ iE ?_
    refine rO ?_;refine rC ?_;refine rO ?_;refine rQ iF ?_;refine rQ iT ?_;refine nS ?_;refine wF ?_;refine wc_skip ?_;refine blk_n ?_;refine seq_n ?_;refine sR ?_;refine rC ?_
    refine nS ?_;refine wc_ret ?_
    exact ⟨trivial, [], lf⟩
  · refine sR ?_;refine rN ?_;refine rC ?_;refine nQ ?_;refine sR ?_;refine rC ?_;refine rQ iB ?_;refine nS ?_;refine wc_block ?_;refine sR ?_;iterate 2 refine rC ?_
    refine nS ?_;refine wF ?_;refine qR ?_;iterate 2 refine rC ?_
    refine nS ?_;refine wF ?_;refine wc_region ?_;iterate 2 refine rC ?_
    refine nS ?_;refine wT ?_;refine sR ?_;refine rC ?_;refine rQ iB ?_;iterate 2 refine rC ?_
    refine rO ?_;refine rC ?_;refine rO ?_;refine rQ iB ?_;refine rO ?_;refine rC ?_;refine rO ?_;refine rC ?_;refine rQ iT ?_;refine rC ?_;refine rO ?_;refine rC ?_
    refine rO ?_;refine rQ iB ?_;refine rO ?_;refine rC ?_;refine rO ?_;refine rC ?_;refine rO ?_;refine rC ?_;refine rO ?_;refine rQ iB ?_;refine rO ?_;refine rQ iE ?_
    refine rO ?_;refine rC ?_;refine rO ?_;refine rQ iF ?_;refine rQ iT ?_;refine nS ?_;refine wT ?_;refine sR ?_;refine rC ?_;refine nS ?_;refine wc_ret ?_;refine blk_r ?_
    refine seq_r ?_
    exact ⟨trivial, [], lf⟩
  · refine sR ?_;refine rN ?_;refine rC ?_;refine nQ ?_;refine sR ?_;refine rC ?_;refine rQ iB ?_;refine nS ?_;refine wc_block ?_;refine sR ?_;iterate 2 refine rC ?_
    refine nS ?_;refine wF ?_;refine qR ?_;iterate 2 refine rC ?_
    refine nS ?_;refine wF ?_;refine wc_region ?_;iterate 2 refine rC ?_
    refine nS ?_;refine wT ?_;refine sR ?_;refine rC ?_;refine rQ iB ?_;iterate 2 refine rC ?_
    refine rO ?_;refine rC ?_;refine rO ?_;refine rQ iB ?_;refine rO ?_;refine rC ?_;refine rO ?_;refine rC ?_;refine rQ iT ?_;refine rC ?_;iterate 4 refine rS ?_
    iterate 4 refine rU ?_
    refine rS ?_;refine rQ iF ?_;refine nS ?_;refine wG ?_;refine wc_skip ?_;refine blk_n ?_;refine seq_n ?_;refine sR ?_;refine rC ?_;refine nS ?_;refine wc_ret ?_
    exact ⟨trivial, [], lf⟩
  · refine sR ?_;refine rN ?_;refine rC ?_;refine nQ ?_;refine sR ?_;refine rC ?_;refine rQ iB ?_;refine nS ?_;refine wc_block ?_;refine sR ?_;iterate 2 refine rC ?_
    refine nS ?_;refine wF ?_;refine qR ?_;iterate 2 refine rC ?_
    refine nS ?_;refine wF ?_;refine wc_region ?_;iterate 2 refine rC ?_
    refine nS ?_;refine wT ?_;refine sR ?_;refine rC ?_;refine rQ iB ?_;iterate 2 refine rC ?_
    refine rO ?_;refine rC ?_;refine rO ?_;refine rQ iB ?_;refine rO ?_;refine rC ?_;refine rO ?_;refine rC ?_;refine rQ iT ?_;refine rC ?_;iterate 4 refine rS ?_
    iterate 4 refine rU ?_
    refine rS ?_;refine rQ iF ?_;refine nS ?_;refine wG ?_;refine wc_skip ?_;refine blk_n ?_;refine seq_n ?_;refine sR ?_;refine rC ?_;refine nS ?_;refine wc_ret ?_
    exact ⟨trivial, [], lf⟩
  · refine sR ?_;refine rN ?_;refine rC ?_;refine nQ ?_;refine sR ?_;refine rC ?_;refine rQ iB ?_;refine nS ?_;refine wc_block ?_;refine sR ?_;iterate 2 refine rC ?_
    refine nS ?_;refine wF ?_;refine qR ?_;iterate 2 refine rC ?_
    refine nS ?_;refine wF ?_;refine wc_region ?_;iterate 2 refine rC ?_
    refine nS ?_;refine wT ?_;refine sR ?_;refine rC ?_;refine rQ iB ?_;iterate 2 refine rC ?_
    iterate 4 refine rS ?_
    refine rQ iF ?_;refine rC ?_;iterate 4 refine rT ?_
    iterate 4 refine rU ?_
    refine rT ?_;refine rQ iG ?_;refine nS ?_;refine wG ?_;refine wc_skip ?_;refine blk_n ?_;refine seq_n ?_;refine sR ?_;refine rC ?_;refine nS ?_;refine wc_ret ?_
    exact ⟨trivial, [], lf⟩
  · refine sR ?_;refine rN ?_;refine rC ?_;refine nQ ?_;refine sR ?_;refine rC ?_;refine rQ iB ?_;refine nS ?_;refine wc_block ?_;refine sR ?_;iterate 2 refine rC ?_
    refine nS ?_;refine wF ?_;refine qR ?_;iterate 2 refine rC ?_
    refine nS ?_;refine wF ?_;refine wc_region ?_;iterate 2 refine rC ?_
    refine nS ?_;refine wT ?_;refine sR ?_;refine rC ?_;refine rQ iB ?_;iterate 2 refine rC ?_
    iterate 4 refine rS ?_
    refine rQ iF ?_;refine rC ?_;iterate 4 refine rT ?_
    iterate 4 refine rU ?_
    refine rT ?_;refine rQ iG ?_;refine nS ?_;refine wG ?_;refine wc_skip ?_;refine blk_n ?_;refine seq_n ?_;refine sR ?_;refine rC ?_;refine nS ?_;refine wc_ret ?_
    exact ⟨trivial, [], lf⟩
  · refine sR ?_;refine rN ?_;refine rC ?_;refine nQ ?_;refine sR ?_;refine rC ?_;refine rQ iB ?_;refine nS ?_;refine wc_block ?_;refine sR ?_;iterate 2 refine rC ?_
    refine nS ?_;refine wF ?_;refine qR ?_;iterate 2 refine rC ?_
    refine nS ?_;refine wF ?_;refine wc_region ?_;iterate 2 refine rC ?_
    refine nS ?_;refine wT ?_;refine sR ?_;refine rC ?_;refine rQ iB ?_;iterate 2 refine rC ?_
    iterate 4 refine rS ?_
    refine rQ iF ?_;refine rC ?_;iterate 4 refine rT ?_
    iterate 4 refine rU ?_
    refine rT ?_;refine rQ iG ?_;refine nS ?_;refine wG ?_;refine wc_skip ?_;refine blk_n ?_;refine seq_n ?_;refine sR ?_;refine rC ?_;refine nS ?_;refine wc_ret ?_
    exact ⟨trivial, [], lf⟩
  · refine sR ?_;refine rN ?_;refine rC ?_;refine nQ ?_;refine sR ?_;refine rC ?_;refine rQ iB ?_;refine nS ?_;refine wc_block ?_;refine sR ?_;iterate 2 refine rC ?_
    refine nS ?_;refine wF ?_;refine qR ?_;iterate 2 refine rC ?_
    refine nS ?_;refine wF ?_;refine wc_region ?_;iterate 2 refine rC ?_
    refine nS ?_;refine wT ?_;refine sR ?_;refine rC ?_;refine rQ iB ?_;iterate 2 refine rC ?_
    iterate 4 refine rS ?_
    refine rQ iF ?_;refine rC ?_;iterate 4 refine rT ?_
    iterate 4 refine rU ?_
    refine rT ?_;refine rQ iG ?_;refine nS ?_;refine wG ?_;refine wc_skip ?_;refine blk_n ?_;refine seq_n ?_;refine sR ?_;refine rC ?_;refine nS ?_;refine wc_ret ?_
    exact ⟨trivial, [], lf⟩
theorem rbad_flush (o : POp) (b : Int) (hk : o.kind = 3) : FnIs Tryz.prog 41 [.d (encPOp o), .int .i64 b] [] (r01 false) [] := by
  have hk3 : decide (o.kind = 3) = true := decide_eq_true (by omega)
  refine fnIs_of tab_ok Tryz.func41 rfl rfl rfl ?_;refine sR ?_;refine rN ?_;refine rC ?_;refine nQ ?_;refine sR ?_;refine rC ?_;refine rQ iB ?_;refine nS ?_;refine wc_block ?_
  refine sR ?_;iterate 2 refine rC ?_
  refine nS ?_;refine wT ?_;refine sR ?_;refine rC ?_;refine nS ?_;refine wc_ret ?_;refine blk_r ?_;refine seq_r ?_
  exact ⟨trivial, [], lf⟩
theorem rbad_other (o : POp) (b : Int) (hk1 : ¬ o.kind = 1) (hk2 : ¬ o.kind = 2) (hk3 : ¬ o.kind = 3) : FnIs Tryz.prog 41 [.d (encPOp o), .int .i64 b] [] (r01 true) [] := by
  have hk3 : decide (o.kind = 3) = false := decide_eq_false (by omega)
  have hk1 : decide (o.kind = 1) = false := decide_eq_false (by omega)
  have hk2 : decide (o.kind = 2) = false := decide_eq_false (by omega)
  refine fnIs_of tab_ok Tryz.func41 rfl rfl rfl ?_;refine sR ?_;refine rN ?_;refine rC ?_;refine nQ ?_;refine sR ?_;refine rC ?_;refine rQ iB ?_;refine nS ?_;refine wc_block ?_
  refine sR ?_;iterate 2 refine rC ?_
  refine nS ?_;refine wF ?_;refine qR ?_;iterate 2 refine rC ?_
  refine nS ?_;refine wF ?_;refine wc_region ?_;iterate 2 refine rC ?_
  refine nS ?_;refine wF ?_;refine wc_skip ?_;refine blk_n ?_;refine seq_n ?_;refine sR ?_;refine rC ?_;refine nS ?_;refine wc_ret ?_
  exact ⟨trivial, [], lf⟩
theorem rbad_is (o : POp) (b : Int) : FnIs Tryz.prog 41 [.d (encPOp o), .int .i64 b] [] (r01 (badO o b)) [] := by
  have n1 : decide (0 ≤ o.index) = !decide (o.index < 0) := by
    by_cases h : o.index < 0
    · rw [decide_eq_true h, decide_eq_false (by omega)]; rfl
    · rw [decide_eq_false h, decide_eq_true (by omega)]; rfl
  have n2 : decide (o.index < b) = !decide (b ≤ o.index) := by
    by_cases h : b ≤ o.index
    · rw [decide_eq_true h, decide_eq_false (by omega)]; rfl
    · rw [decide_eq_false h, decide_eq_true (by omega)]; rfl
  by_cases k1 : o.kind = 1
  · have := rbad_read o b k1 _ _ _ n1 n2 rfl
    rwa [show badO o b = (decide (o.index < 0) || decide (b ≤ o.index)) by rw [badO, if_pos k1, outO]]
  · by_cases k2 : o.kind = 2
    · have := rbad_write o b k2 _ _ _ n1 n2 rfl
      rwa [show badO o b = (decide (o.index < 0) || decide (b ≤ o.index) || !decide (((byI o.data).length : Int) = 32)) by rw [badO, if_neg k1, if_pos k2, outO, len32]]
    · by_cases k3 : o.kind = 3
      · have := rbad_flush o b k3
        rwa [show badO o b = false by rw [badO, if_neg k1, if_neg k2, decide_eq_true k3]; rfl]
      · have := rbad_other o b k1 k2 k3
        rwa [show badO o b = true by rw [badO, if_neg k1, if_neg k2, decide_eq_false k3]; rfl]
end Go.Proofs.YtmojbghcngdkpaaGreatDoor

namespace Go.Proofs.YtmojbghcngdkpaaGreatDoor
open Go.Eng Go.Plain
set_option maxHeartbeats 4000000
set_option maxRecDepth 20000
attribute [local irreducible] WC RegS RegD SeqQ BlkQ ScoQ RegK CutK Sat SatN FnIs LoopQ StepIs OpIs
abbrev k4 (l : List POp) : D := .cons (i6 (cK 1 l)) (.cons (i6 (cK 2 l)) (.cons (i6 (cK 3 l)) (.cons (i6 (cO l)) .nil)))
end Go.Proofs.YtmojbghcngdkpaaGreatDoor

namespace Go.Proofs.YtmojbghcngdkpaaGreatDoor
open Go.Eng Go.Plain
set_option maxHeartbeats 4000000
set_option maxRecDepth 20000
attribute [local irreducible] WC RegS RegD SeqQ BlkQ ScoQ RegK CutK Sat SatN FnIs LoopQ StepIs OpIs
def wStep (n : Int) (s : List Int × Bool) (x : Int) : List Int × Bool :=
  let t := if s.2 = false ∧ n ≤ x then (s.1 ++ [n], true) else s
  (if x = n then t.1 else t.1 ++ [x], t.2)
def wPre (n : Int) (l : List Int) : List Int × Bool := l.foldl (wStep n) ([], false)
def withL (l : List Int) (n : Int) : List Int := if (wPre n l).2 = true then (wPre n l).1 else (wPre n l).1 ++ [n]
def bi (b : Bool) : Int := if b then 1 else 0
abbrev rowI (l : List Int) : Row := .ds 3 1 false i6 l
end Go.Proofs.YtmojbghcngdkpaaGreatDoor

namespace Go.Proofs.YtmojbghcngdkpaaGreatDoor
open Go.Eng Go.Plain
def uB : Bool → Nat
  | true => 0
  | false => 1
def touB (b : Int) (o : POp) : Bool := !decide (o.kind = 3) && !badO o b
def touS (b : Int) (acc : List Int) (o : POp) : List Int := if touB b o = true then withL acc o.index else acc
def touL (b : Int) (l : List POp) : List Int := l.foldl (touS b) []
end Go.Proofs.YtmojbghcngdkpaaGreatDoor

namespace Go.Proofs.YtmojbghcngdkpaaGreatDoor
open Go.Eng Go.Plain
set_option maxHeartbeats 4000000
set_option maxRecDepth 20000
attribute [local irreducible] WC RegS RegD SeqQ BlkQ ScoQ RegK CutK Sat SatN FnIs LoopQ StepIs OpIs
end Go.Proofs.YtmojbghcngdkpaaGreatDoor

namespace Go.Proofs.YtmojbghcngdkpaaGreatDoor
open Go.Eng Go.Plain
set_option maxHeartbeats 4000000
set_option maxRecDepth 20000
attribute [local irreducible] WC RegS RegD SeqQ BlkQ ScoQ RegK CutK Sat SatN FnIs LoopQ StepIs OpIs
end Go.Proofs.YtmojbghcngdkpaaGreatDoor

namespace Go.Eng
open Go.RowKit
end Go.Eng

namespace Go.Proofs.YtmojbghcngdkpaaGreatDoor
open Go.Eng Go.Plain
set_option maxHeartbeats 4000000
set_option maxRecDepth 20000
attribute [local irreducible] WC RegS RegD SeqQ BlkQ ScoQ RegK CutK Sat SatN FnIs LoopQ StepIs OpIs
def decD : List UInt8 := [48, 49, 50, 51, 52, 53, 54, 55, 56, 57]
theorem decD_cut {d : Nat} (h : d < 10) : (decD.drop d).take (d + 1 - d) = [UInt8.ofNat (48 + d)] := by
  have : ∀ d, d < 10 → (decD.drop d).take (d + 1 - d) = [UInt8.ofNat (48 + d)] := by decide
  exact this d h
theorem numN_is : ∀ (u : Nat), u ≤ 9223372036854775807 → FnIs Tryz.prog 51 [.int .i64 u] [] (.d (strD (Lib.decDigits u))) [] := by
  intro u
  induction u using Nat.strongRecOn with
  | ind u ih =>
    intro hu
    have hmin : decide ((u : Int) = -9223372036854775808) = false := decide_eq_false (by omega)
    have hneg : decide ((u : Int) < 0) = false := decide_eq_false (by omega)
    have hw1 : IntKind.i64.wrap (((u % 10 : Nat) : Int) + 1) = ((u % 10 + 1 : Nat) : Int) := by rw [wrap_i64 (by omega) (by omega)]; rfl
    have hle : u % 10 + 1 ≤ decD.length := by show u % 10 + 1 ≤ 10; omega
    have hcut := decD_cut (d := u % 10) (by omega)
    refine fnIs_of tab_ok Tryz.func51 rfl rfl rfl ?_
    by_cases h9 : 9 < u
    · have hd : decide (9 < (u : Int)) = true := decide_eq_true (by omega)
      have hrec := ih (u / 10) (by omega) (by omega)
      have hw2 : IntKind.i64.wrap ((u / 10 : Nat) : Int) = ((u / 10 : Nat) : Int) := wrap_i64 (by omega) (by omega)
      have hlen : (Lib.decDigits (u / 10)).length + [UInt8.ofNat (48 + u % 10)].length ≤ 9223372036854775807 := by
        have := dec_len (u := u / 10) (by omega)
        simp; omega
      rw [show Lib.decDigits u = Lib.decDigits (u / 10) ++ [UInt8.ofNat (48 + u % 10)] by rw [Lib.decDigits, dif_neg (by omega)]]
      refine sR ?_;refine rC ?_;refine nQ ?_;refine sR ?_;iterate 2 refine rC ?_
      refine nS ?_;refine wG ?_;refine kS ?_;refine qR ?_;iterate 2 refine rC ?_
      refine nS ?_;refine wG ?_;refine kS ?_;refine sR ?_;refine rC ?_;refine rQ (rem_nat (a := u) (b := 10) tab_ok rfl rfl rfl (by decide)) ?_;refine rC ?_;refine rQ (rem_nat (a := u) (b := 10) tab_ok rfl rfl rfl (by decide)) ?_
      refine rQ (add_int (m := ((u % 10 + 1 : Nat) : Int)) tab_ok rfl rfl hw1) ?_;refine rQ (str_mid (l := decD) (lo := u % 10) (hi := u % 10 + 1) tab_ok rfl rfl rfl rfl hle (by omega) hcut) ?_
      refine rC ?_;refine nQ ?_;refine sR ?_;iterate 2 refine rC ?_
      refine nS ?_;refine wT ?_;refine wc_region ?_;refine rC ?_;refine rQ (quo_nat (a := u) (b := 10) tab_ok rfl rfl rfl (by decide) hw2) ?_;refine rQ (call_r hrec rfl rfl (arg_e arg_nil) (.inl rfl) (fun _ => rfl)) ?_
      refine rC ?_;refine rQ (add_str (a := Lib.decDigits (u / 10)) (b := [UInt8.ofNat (48 + u % 10)]) rfl rfl hlen rfl) ?_;refine rC ?_;refine nR ?_;iterate 2 refine rC ?_
      refine nS ?_;refine wc_ret ?_
      exact ⟨trivial, [], lf⟩
    · have hd : decide (9 < (u : Int)) = false := decide_eq_false (by omega)
      rw [show Lib.decDigits u = [UInt8.ofNat (48 + u % 10)] by rw [Lib.decDigits, dif_pos (by omega), Nat.mod_eq_of_lt (by omega)]]
      refine sR ?_;refine rC ?_;refine nQ ?_;refine sR ?_;iterate 2 refine rC ?_
      refine nS ?_;refine wG ?_;refine kS ?_;refine qR ?_;iterate 2 refine rC ?_
      refine nS ?_;refine wG ?_;refine kS ?_;refine sR ?_;refine rC ?_;refine rQ (rem_nat (a := u) (b := 10) tab_ok rfl rfl rfl (by decide)) ?_;refine rC ?_;refine rQ (rem_nat (a := u) (b := 10) tab_ok rfl rfl rfl (by decide)) ?_
      refine rQ (add_int (m := ((u % 10 + 1 : Nat) : Int)) tab_ok rfl rfl hw1) ?_;refine rQ (str_mid (l := decD) (lo := u % 10) (hi := u % 10 + 1) tab_ok rfl rfl rfl rfl hle (by omega) hcut) ?_
      refine rC ?_;refine nQ ?_;refine sR ?_;iterate 2 refine rC ?_
      refine nS ?_;refine wF ?_;refine kS ?_;refine sR ?_;iterate 2 refine rC ?_
      refine nS ?_;refine wc_ret ?_
      exact ⟨trivial, [], lf⟩
theorem number_is (n : Int) (h0 : -9223372036854775808 ≤ n) (h1 : n ≤ 9223372036854775807) : FnIs Tryz.prog 51 [.int .i64 n] [] (.d (strD (Lib.itoa n))) [] := by
  by_cases hn : n < 0
  · by_cases hm : n = -9223372036854775808
    · subst hm
      rw [show Lib.itoa (-9223372036854775808) = [45, 57, 50, 50, 51, 51, 55, 50, 48, 51, 54, 56, 53, 52, 55, 55, 53, 56, 48, 56] by decide +kernel]
      refine fnIs_of tab_ok Tryz.func51 rfl rfl rfl ?_;refine sR ?_;refine rC ?_;refine nQ ?_;refine sR ?_;iterate 2 refine rC ?_
      refine nS ?_;refine wV ?_;refine sR ?_;refine rC ?_;refine nS ?_;refine wc_ret ?_;refine seq_r ?_
      exact ⟨trivial, [], lf⟩
    · have hmin : decide (n = -9223372036854775808) = false := decide_eq_false hm
      have hneg : decide (n < 0) = true := decide_eq_true hn
      have hrec := numN_is n.natAbs (by omega)
      have hlen : [(45 : UInt8)].length + (Lib.decDigits n.natAbs).length ≤ 9223372036854775807 := by
        have := dec_len (u := n.natAbs) (by omega)
        simp; omega
      have hwn : IntKind.i64.wrap (-n) = (n.natAbs : Int) := by rw [wrap_i64 (by omega) (by omega)]; omega
      rw [show Lib.itoa n = [45] ++ Lib.decDigits n.natAbs by rw [Lib.itoa, if_pos hn]; rfl]
      refine fnIs_of tab_ok Tryz.func51 rfl rfl rfl ?_;refine sR ?_;refine rC ?_;refine nQ ?_;refine sR ?_;iterate 2 refine rC ?_
      refine nS ?_;refine wF ?_;refine kS ?_;refine qR ?_;iterate 2 refine rC ?_
      refine nS ?_;refine wT ?_;refine sR ?_;refine rC ?_;refine rQ (step_C tab_ok (fun K hk => ⟨_, hwn, hk⟩)) ?_;refine rQ (call_r hrec rfl rfl (arg_e arg_nil) (.inl rfl) (fun _ => rfl)) ?_
      refine rQ (add_str (a := [45]) (b := Lib.decDigits n.natAbs) rfl rfl hlen rfl) ?_;refine rC ?_;refine nS ?_;refine wc_ret ?_;refine seq_r ?_
      exact ⟨trivial, [], lf⟩
  · have := numN_is n.toNat (by omega)
    rw [show ((n.toNat : Nat) : Int) = n by omega] at this
    rwa [show Lib.itoa n = Lib.decDigits n.toNat by rw [Lib.itoa, if_neg hn]]
end Go.Proofs.YtmojbghcngdkpaaGreatDoor

namespace Go.Proofs.YtmojbghcngdkpaaGreatDoor
open Go.Eng Go.Plain
set_option maxHeartbeats 4000000
set_option maxRecDepth 20000
attribute [local irreducible] WC RegS RegD SeqQ BlkQ ScoQ RegK CutK Sat SatN FnIs LoopQ StepIs OpIs
theorem hexD_cut {d : Nat} (h : d < 16) : (hexD.drop d).take (d + 1 - d) = [hexC d] := by
  have : ∀ d, d < 16 → (hexD.drop d).take (d + 1 - d) = [hexC d] := by decide
  exact this d h
theorem rhex_is (l : List UInt8) (hL : l.length ≤ 1000000000) : FnIs Tryz.prog 120 [.d (encB l)] [] (.d (strD (hexP l))) [] := by
  have hbl : (byI l).length = l.length := byI_len l
  refine fnIs_of tab_ok Tryz.func120 rfl rfl rfl ?_;refine sR ?_;refine rC ?_;refine nR ?_;refine rC ?_;refine nQ ?_;refine sR ?_;refine rC ?_;refine nS ?_;refine wc_block ?_
  refine wc_inv (fun i : Nat => ⟨[(4, .int .i64 i), (3, .d (strD ((l.take i).flatMap hexB))), (0, .d (encB l))], [], 72, Tryz.f120.ntmps, 64⟩) (fun i => i ≤ l.length) (fun i => l.length - i) 0 [] (Nat.zero_le _)
    (.of rfl rfl rfl rfl rfl ⟨⟨_, rfl, .refl _⟩, rfl, ⟨_, rfl, .refl _⟩, rfl, ⟨_, rfl, .refl _⟩, rfl, trivial⟩ trivial) ?_
  intro i hi
  refine wc_of ?_;refine qR ?_;iterate 2 refine rC ?_
  refine rQ iE ?_;refine rC ?_;refine nS ?_
  refine wc_cond rfl (fun h3 => ?_) (fun h3 => ?_)
  · have hlt : i < l.length := by have := of_decide_eq_true h3; omega
    obtain ⟨b, hb⟩ : ∃ b, l[i]? = some b := ⟨_, List.getElem?_eq_getElem hlt⟩
    have hb' : (byI l)[((i : Int)).toNat]? = some (b.toNat : Int) := by rw [Int.toNat_natCast]; exact byI_get hb
    have hb8 : b.toNat < 256 := b.toNat_lt
    have hw1 : IntKind.u8.wrap (((b.toNat / 16 : Nat) : Int) + 1) = ((b.toNat / 16 + 1 : Nat) : Int) := wrap_u8n (a := b.toNat / 16 + 1) (by omega)
    have hw2 : IntKind.u8.wrap (((b.toNat % 16 : Nat) : Int) + 1) = ((b.toNat % 16 + 1 : Nat) : Int) := wrap_u8n (a := b.toNat % 16 + 1) (by omega)
    have hle1 : b.toNat / 16 + 1 ≤ hexD.length := by show _ ≤ 16; omega
    have hle2 : b.toNat % 16 + 1 ≤ hexD.length := by show _ ≤ 16; omega
    have hcut1 := hexD_cut (d := b.toNat / 16) (by omega)
    have hcut2 := hexD_cut (d := b.toNat % 16) (by omega)
    have hpl : ((l.take i).flatMap hexB).length = 2 * i := by rw [hexB_len, List.length_take, Nat.min_eq_left hi]
    have hlen1 : ((l.take i).flatMap hexB).length + [hexC (b.toNat / 16)].length ≤ 9223372036854775807 := by rw [hpl]; simp; omega
    have hlen2 : ((l.take i).flatMap hexB ++ [hexC (b.toNat / 16)]).length + [hexC (b.toNat % 16)].length ≤ 9223372036854775807 := by rw [List.length_append, hpl]; simp; omega
    have hgo := hex_take hb
    refine kS ?_;refine wc_seq ?_;refine wc_block ?_;refine wc_seq ?_;refine wc_draw (by kernel_rfl) ?_;refine dC [0] [] ?_;refine dC [4] [] ?_;refine dQ [13, 14] [] iA ?_
    refine dQ [15] [] iL ?_;refine dQ [16] [] (shr_nat (a := b.toNat) (s := 4) (m := b.toNat / 16) rfl rfl (by decide) rfl) ?_;refine dC [0] [] ?_;refine dC [4] [] ?_
    refine dQ [18, 19] [] iA ?_;refine dQ [20] [] iL ?_;refine dQ [21] [] (and_nat (a := b.toNat) (b := 15) (m := b.toNat % 16) rfl rfl rfl hb8 (by decide) (Nat.and_two_pow_sub_one_eq_mod b.toNat 4)) ?_
    refine dC [17] [] ?_;refine dC [22] [] ?_;refine dreg_end (by kernel_rfl) ?_;refine seq_n ?_;refine wc_draw (by kernel_rfl) ?_;refine dC [3] [] ?_;iterate 2 refine dC [5] [] ?_
    refine dQ [25] [] (add_int (m := ((b.toNat / 16 + 1 : Nat) : Int)) tab_ok rfl rfl hw1) ?_;refine dQ [24, 26] [] (str_mid (l := hexD) (lo := b.toNat / 16) (hi := b.toNat / 16 + 1) tab_ok rfl rfl rfl rfl hle1 (by omega) hcut1) ?_
    refine dQ [23, 27] [] (add_str (a := (l.take i).flatMap hexB) (b := [hexC (b.toNat / 16)]) rfl rfl hlen1 rfl) ?_;iterate 2 refine dC [6] [] ?_
    refine dQ [30] [] (add_int (m := ((b.toNat % 16 + 1 : Nat) : Int)) tab_ok rfl rfl hw2) ?_;refine dQ [29, 31] [] (str_mid (l := hexD) (lo := b.toNat % 16) (hi := b.toNat % 16 + 1) tab_ok rfl rfl rfl rfl hle2 (by omega) hcut2) ?_
    refine dQ [28, 32] [] (add_str (a := (l.take i).flatMap hexB ++ [hexC (b.toNat / 16)]) (b := [hexC (b.toNat % 16)]) rfl rfl hlen2 rfl) ?_;refine dC [33] [] ?_;refine dreg_end (by kernel_rfl) ?_
    refine blk_n ?_;refine seq_n ?_;refine wc_region ?_;refine rC ?_;refine rQ iD ?_;refine rC ?_;refine reg_nil ?_
    exact loop_n (i + 1) [] hlt (by omega) (.of rfl rfl rfl rfl rfl ⟨⟨_, rfl, .refl _⟩, rfl, ⟨_, rfl, AVLe.of_eq (by rw [hgo]; rfl)⟩, rfl, ⟨_, rfl, .refl _⟩, rfl, trivial⟩ trivial)
  · have he : i = l.length := by have := of_decide_eq_false h3; omega
    subst he
    rw [List.take_length]
    by_cases hn : l = []
    · have hd : decide (l.flatMap hexB = []) = true := by rw [hn]; rfl
      rw [show hexP l = [45] from if_pos hn]
      refine wc_exit ?_;refine seq_x ?_;refine loop_x ?_;refine blk_x ?_;refine seq_n ?_;refine qR ?_;refine rC ?_;refine rQ (eql_s (a := l.flatMap hexB) (b := []) tab_ok rfl rfl rfl) ?_
      refine nS ?_;refine wT ?_;refine wc_region ?_;refine rC ?_;refine nR ?_;iterate 2 refine rC ?_
      refine nS ?_;refine wc_ret ?_
      exact ⟨trivial, [], lf⟩
    · have hd : decide (l.flatMap hexB = []) = false := decide_eq_false fun e => hn (by
        have := hexB_len l
        rw [e] at this
        exact List.eq_nil_of_length_eq_zero (by simp at this; omega))
      rw [show hexP l = l.flatMap hexB from if_neg hn]
      refine wc_exit ?_;refine seq_x ?_;refine loop_x ?_;refine blk_x ?_;refine seq_n ?_;refine qR ?_;refine rC ?_;refine rQ (eql_s (a := l.flatMap hexB) (b := []) tab_ok rfl rfl rfl) ?_
      refine nS ?_;refine wF ?_;refine kS ?_;refine sR ?_;iterate 2 refine rC ?_
      refine nS ?_;refine wc_ret ?_
      exact ⟨trivial, [], lf⟩
end Go.Proofs.YtmojbghcngdkpaaGreatDoor

namespace Go.Proofs.YtmojbghcngdkpaaGreatDoor
open Go.Eng Go.Plain
set_option maxHeartbeats 4000000
set_option maxRecDepth 20000
attribute [local irreducible] WC RegS RegD SeqQ BlkQ ScoQ RegK CutK Sat SatN FnIs LoopQ StepIs OpIs
theorem rline_read (o : POp) (hok : o.Ok) (hL : o.data.length ≤ 1000000000) (hk : o.kind = 1) (hd0 : o.data = []) : FnIs Tryz.prog 85 [.d (encPOp o)] [] (.d (strD (lineP o))) [] := by
  obtain ⟨⟨kk0, kk1⟩, h0, h1⟩ := hok
  have k0 : -9223372036854775808 ≤ o.kind := by omega
  have k1 : o.kind ≤ 9223372036854775807 := by omega
  have hwk : IntKind.i64.wrap o.kind = o.kind := wrap_i64 (by omega) (by omega)
  have l1 := itoa_len h0 h1
  have l2 := itoa_len k0 k1
  have l3 := hexP_len o.data
  have hk1 : decide (o.kind = 1) = true := decide_eq_true (by omega)
  have hd := len0_iff o.data true (decide_eq_true hd0)
  rw [show lineP o = sRead ++ [32] ++ Lib.itoa o.index by rw [lineP, if_pos ⟨hk, hd0⟩]; simp]
  refine fnIs_of tab_ok Tryz.func85 rfl rfl rfl ?_;refine sR ?_;refine rN ?_;refine rC ?_;refine nQ ?_;refine sR ?_;refine rC ?_;refine rQ iB ?_;iterate 2 refine rC ?_
  refine rO ?_;refine rC ?_;refine rO ?_;refine rQ iB ?_;refine rO ?_;refine rQ iE ?_;refine rO ?_;refine rC ?_;refine rQ iT ?_;refine nS ?_;refine wT ?_;refine sR ?_
  refine rC ?_;refine rQ iB ?_;refine rQ (call_r (number_is _ h0 h1) rfl rfl (arg_e arg_nil) (.inl rfl) (fun _ => rfl)) ?_
  refine rQ (add_str (a := sRead ++ [32]) (b := Lib.itoa o.index) rfl rfl (by simp [sRead]; omega) rfl) ?_
  refine rC ?_;refine nS ?_;refine wc_ret ?_;refine seq_r ?_
  exact ⟨trivial, [], lf⟩
theorem rline_write (o : POp) (hok : o.Ok) (hL : o.data.length ≤ 1000000000) (hk : o.kind = 2) : FnIs Tryz.prog 85 [.d (encPOp o)] [] (.d (strD (lineP o))) [] := by
  obtain ⟨⟨kk0, kk1⟩, h0, h1⟩ := hok
  have k0 : -9223372036854775808 ≤ o.kind := by omega
  have k1 : o.kind ≤ 9223372036854775807 := by omega
  have hwk : IntKind.i64.wrap o.kind = o.kind := wrap_i64 (by omega) (by omega)
  have l1 := itoa_len h0 h1
  have l2 := itoa_len k0 k1
  have l3 := hexP_len o.data
  have hk1 : decide (o.kind = 1) = false := decide_eq_false (by omega)
  have hk2 : decide (o.kind = 2) = true := decide_eq_true (by omega)
  rw [show lineP o = sWrite ++ [32] ++ Lib.itoa o.index ++ [32] ++ hexP o.data by rw [lineP, if_neg (fun h => by have := h.1; omega), if_pos hk]; simp]
  refine fnIs_of tab_ok Tryz.func85 rfl rfl rfl ?_;refine sR ?_;refine rN ?_;refine rC ?_;refine nQ ?_;refine sR ?_;refine rC ?_;refine rQ iB ?_;iterate 2 refine rC ?_
  iterate 4 refine rS ?_
  refine rQ iF ?_;refine nS ?_;refine wG ?_;refine kS ?_;refine qR ?_;refine rC ?_;refine rQ iB ?_;refine rC ?_;refine nS ?_;refine wT ?_;refine wc_seq ?_;refine wc_draw (by kernel_rfl) ?_
  refine dC [1] [64] ?_;refine dQ [19] [64] iB ?_;refine dQ [20] [] (call_r (number_is _ h0 h1) rfl rfl (arg_e arg_nil) (.inl rfl) (fun _ => rfl)) ?_
  refine dQ [21] [] (add_str (a := sWrite ++ [32]) (b := Lib.itoa o.index) rfl rfl (by simp [sWrite]; omega) rfl) ?_
  refine dQ [22] [] (add_str (a := sWrite ++ [32] ++ Lib.itoa o.index) (b := [32]) rfl rfl (by simp [sWrite]; omega) rfl) ?_
  refine dC [1] [64] ?_;refine dQ [24] [64] iB ?_;refine dQ [25] [] (call_r (rhex_is o.data hL) rfl rfl (arg_e arg_nil) (.inl rfl) (fun _ => rfl)) ?_
  refine dQ [23, 26] [] (add_str (a := sWrite ++ [32] ++ Lib.itoa o.index ++ [32]) (b := hexP o.data) rfl rfl (by simp [sWrite]; omega) rfl) ?_
  refine dC [27] [] ?_;refine dreg_end (by kernel_rfl) ?_;refine seq_n ?_;refine wc_ret ?_;refine seq_r ?_
  exact ⟨trivial, [], lf⟩
theorem rline_flush (o : POp) (hok : o.Ok) (hL : o.data.length ≤ 1000000000) (hk : o.kind = 3) (hi0 : o.index = 0) (hd0 : o.data = []) : FnIs Tryz.prog 85 [.d (encPOp o)] [] (.d (strD (lineP o))) [] := by
  obtain ⟨⟨kk0, kk1⟩, h0, h1⟩ := hok
  have k0 : -9223372036854775808 ≤ o.kind := by omega
  have k1 : o.kind ≤ 9223372036854775807 := by omega
  have hwk : IntKind.i64.wrap o.kind = o.kind := wrap_i64 (by omega) (by omega)
  have l1 := itoa_len h0 h1
  have l2 := itoa_len k0 k1
  have l3 := hexP_len o.data
  have hk1 : decide (o.kind = 1) = false := decide_eq_false (by omega)
  have hk2 : decide (o.kind = 2) = false := decide_eq_false (by omega)
  have hk3 : decide (o.kind = 3) = true := decide_eq_true (by omega)
  have hd := len0_iff o.data true (decide_eq_true hd0)
  have hi : decide (o.index = 0) = true := decide_eq_true hi0
  rw [show lineP o = sFlush by rw [lineP, if_neg (fun h => by have := h.1; omega), if_neg (by omega), if_pos ⟨hk, hi0, hd0⟩]]
  refine fnIs_of tab_ok Tryz.func85 rfl rfl rfl ?_;refine sR ?_;refine rN ?_;refine rC ?_;refine nQ ?_;refine sR ?_;refine rC ?_;refine rQ iB ?_;iterate 2 refine rC ?_
  iterate 4 refine rS ?_
  refine rQ iF ?_;refine nS ?_;refine wG ?_;refine kS ?_;refine qR ?_;refine rC ?_;refine rQ iB ?_;refine rC ?_;refine nS ?_;refine wF ?_;refine kS ?_;refine qR ?_
  refine rC ?_;refine rQ iB ?_;iterate 2 refine rC ?_
  refine rO ?_;refine rC ?_;refine rO ?_;refine rQ iB ?_;refine rO ?_;refine rC ?_;refine rQ iT ?_;refine rC ?_;refine rO ?_;refine rC ?_;refine rO ?_;refine rQ iB ?_
  refine rO ?_;refine rQ iE ?_;refine rO ?_;refine rC ?_;refine rQ iT ?_;refine nS ?_;refine wT ?_;refine sR ?_;refine rC ?_;refine nS ?_;refine wc_ret ?_;refine seq_r ?_
  exact ⟨trivial, [], lf⟩
theorem rline_op1 (o : POp) (hok : o.Ok) (hL : o.data.length ≤ 1000000000) (hk : o.kind = 1) (hd0 : ¬ o.data = []) : FnIs Tryz.prog 85 [.d (encPOp o)] [] (.d (strD (lineP o))) [] := by
  obtain ⟨⟨kk0, kk1⟩, h0, h1⟩ := hok
  have k0 : -9223372036854775808 ≤ o.kind := by omega
  have k1 : o.kind ≤ 9223372036854775807 := by omega
  have hwk : IntKind.i64.wrap o.kind = o.kind := wrap_i64 (by omega) (by omega)
  have l1 := itoa_len h0 h1
  have l2 := itoa_len k0 k1
  have l3 := hexP_len o.data
  have hk1 : decide (o.kind = 1) = true := decide_eq_true (by omega)
  have hk2 : decide (o.kind = 2) = false := decide_eq_false (by omega)
  have hk3 : decide (o.kind = 3) = false := decide_eq_false (by omega)
  have hd := len0_iff o.data false (decide_eq_false hd0)
  rw [show lineP o = sOp ++ [32] ++ Lib.itoa o.kind ++ [32] ++ Lib.itoa o.index ++ [32] ++ hexP o.data by rw [lineP, if_neg (fun h => hd0 h.2), if_neg (by omega), if_neg (fun h => by have := h.1; omega)]; simp]
  refine fnIs_of tab_ok Tryz.func85 rfl rfl rfl ?_;refine sR ?_;refine rN ?_;refine rC ?_;refine nQ ?_;refine sR ?_;refine rC ?_;refine rQ iB ?_;iterate 2 refine rC ?_
  refine rO ?_;refine rC ?_;refine rO ?_;refine rQ iB ?_;refine rO ?_;refine rQ iE ?_;refine rO ?_;refine rC ?_;refine rQ iT ?_;refine nS ?_;refine wF ?_;refine kS ?_
  refine qR ?_;refine rC ?_;refine rQ iB ?_;refine rC ?_;refine nS ?_;refine wF ?_;refine kS ?_;refine qR ?_;refine rC ?_;refine rQ iB ?_;iterate 2 refine rC ?_
  iterate 3 refine rS ?_
  refine rQ iF ?_;refine rC ?_;iterate 4 refine rT ?_
  refine rQ iG ?_;refine nS ?_;refine wG ?_;refine kS ?_;refine wc_seq ?_;refine wc_draw (by kernel_rfl) ?_;refine dC [1] [64] ?_;refine dQ [42] [64] iB ?_;refine dQ [43] [] (conv_int (m := o.kind) tab_ok rfl rfl rfl hwk) ?_
  refine dQ [44] [] (call_r (number_is _ k0 k1) rfl rfl (arg_e arg_nil) (.inl rfl) (fun _ => rfl)) ?_
  refine dQ [45] [] (add_str (a := sOp ++ [32]) (b := Lib.itoa o.kind) rfl rfl (by simp [sOp]; omega) rfl) ?_
  refine dQ [46] [] (add_str (a := sOp ++ [32] ++ Lib.itoa o.kind) (b := [32]) rfl rfl (by simp [sOp]; omega) rfl) ?_
  refine dC [1] [64] ?_;refine dQ [48] [64] iB ?_;refine dQ [49] [] (call_r (number_is _ h0 h1) rfl rfl (arg_e arg_nil) (.inl rfl) (fun _ => rfl)) ?_
  refine dQ [47, 50] [] (add_str (a := sOp ++ [32] ++ Lib.itoa o.kind ++ [32]) (b := Lib.itoa o.index) rfl rfl (by simp [sOp]; omega) rfl) ?_
  refine dQ [51] [] (add_str (a := sOp ++ [32] ++ Lib.itoa o.kind ++ [32] ++ Lib.itoa o.index) (b := [32]) rfl rfl (by simp [sOp]; omega) rfl) ?_
  refine dC [1] [64] ?_;refine dQ [53] [64] iB ?_;refine dQ [54] [] (call_r (rhex_is o.data hL) rfl rfl (arg_e arg_nil) (.inl rfl) (fun _ => rfl)) ?_
  refine dQ [52, 55] [] (add_str (a := sOp ++ [32] ++ Lib.itoa o.kind ++ [32] ++ Lib.itoa o.index ++ [32]) (b := hexP o.data) rfl rfl (by simp [sOp]; omega) rfl) ?_
  refine dC [56] [] ?_;refine dreg_end (by kernel_rfl) ?_;refine seq_n ?_;refine wc_ret ?_
  exact ⟨trivial, [], lf⟩
theorem rline_op2 (o : POp) (hok : o.Ok) (hL : o.data.length ≤ 1000000000) (hk1 : ¬ o.kind = 1) (hk2 : ¬ o.kind = 2) (hk3 : ¬ o.kind = 3) : FnIs Tryz.prog 85 [.d (encPOp o)] [] (.d (strD (lineP o))) [] := by
  obtain ⟨⟨kk0, kk1⟩, h0, h1⟩ := hok
  have k0 : -9223372036854775808 ≤ o.kind := by omega
  have k1 : o.kind ≤ 9223372036854775807 := by omega
  have hwk : IntKind.i64.wrap o.kind = o.kind := wrap_i64 (by omega) (by omega)
  have l1 := itoa_len h0 h1
  have l2 := itoa_len k0 k1
  have l3 := hexP_len o.data
  have hk1 : decide (o.kind = 1) = false := decide_eq_false (by omega)
  have hk2 : decide (o.kind = 2) = false := decide_eq_false (by omega)
  have hk3 : decide (o.kind = 3) = false := decide_eq_false (by omega)
  rw [show lineP o = sOp ++ [32] ++ Lib.itoa o.kind ++ [32] ++ Lib.itoa o.index ++ [32] ++ hexP o.data by rw [lineP, if_neg (fun h => by have := h.1; omega), if_neg (by omega), if_neg (fun h => by have := h.1; omega)]; simp]
  refine fnIs_of tab_ok Tryz.func85 rfl rfl rfl ?_;refine sR ?_;refine rN ?_;refine rC ?_;refine nQ ?_;refine sR ?_;refine rC ?_;refine rQ iB ?_;iterate 2 refine rC ?_
  iterate 4 refine rS ?_
  refine rQ iF ?_;refine nS ?_;refine wG ?_;refine kS ?_;refine qR ?_;refine rC ?_;refine rQ iB ?_;refine rC ?_;refine nS ?_;refine wF ?_;refine kS ?_;refine qR ?_
  refine rC ?_;refine rQ iB ?_;iterate 2 refine rC ?_
  iterate 3 refine rS ?_
  refine rQ iF ?_;refine rC ?_;iterate 4 refine rT ?_
  refine rQ iG ?_;refine nS ?_;refine wG ?_;refine kS ?_;refine wc_seq ?_;refine wc_draw (by kernel_rfl) ?_;refine dC [1] [64] ?_;refine dQ [42] [64] iB ?_;refine dQ [43] [] (conv_int (m := o.kind) tab_ok rfl rfl rfl hwk) ?_
  refine dQ [44] [] (call_r (number_is _ k0 k1) rfl rfl (arg_e arg_nil) (.inl rfl) (fun _ => rfl)) ?_
  refine dQ [45] [] (add_str (a := sOp ++ [32]) (b := Lib.itoa o.kind) rfl rfl (by simp [sOp]; omega) rfl) ?_
  refine dQ [46] [] (add_str (a := sOp ++ [32] ++ Lib.itoa o.kind) (b := [32]) rfl rfl (by simp [sOp]; omega) rfl) ?_
  refine dC [1] [64] ?_;refine dQ [48] [64] iB ?_;refine dQ [49] [] (call_r (number_is _ h0 h1) rfl rfl (arg_e arg_nil) (.inl rfl) (fun _ => rfl)) ?_
  refine dQ [47, 50] [] (add_str (a := sOp ++ [32] ++ Lib.itoa o.kind ++ [32]) (b := Lib.itoa o.index) rfl rfl (by simp [sOp]; omega) rfl) ?_
  refine dQ [51] [] (add_str (a := sOp ++ [32] ++ Lib.itoa o.kind ++ [32] ++ Lib.itoa o.index) (b := [32]) rfl rfl (by simp [sOp]; omega) rfl) ?_
  refine dC [1] [64] ?_;refine dQ [53] [64] iB ?_;refine dQ [54] [] (call_r (rhex_is o.data hL) rfl rfl (arg_e arg_nil) (.inl rfl) (fun _ => rfl)) ?_
  refine dQ [52, 55] [] (add_str (a := sOp ++ [32] ++ Lib.itoa o.kind ++ [32] ++ Lib.itoa o.index ++ [32]) (b := hexP o.data) rfl rfl (by simp [sOp]; omega) rfl) ?_
  refine dC [56] [] ?_;refine dreg_end (by kernel_rfl) ?_;refine seq_n ?_;refine wc_ret ?_
  exact ⟨trivial, [], lf⟩
theorem rline_op3 (o : POp) (hok : o.Ok) (hL : o.data.length ≤ 1000000000) (hk : o.kind = 3) (hi0 : ¬ o.index = 0) : FnIs Tryz.prog 85 [.d (encPOp o)] [] (.d (strD (lineP o))) [] := by
  obtain ⟨⟨kk0, kk1⟩, h0, h1⟩ := hok
  have k0 : -9223372036854775808 ≤ o.kind := by omega
  have k1 : o.kind ≤ 9223372036854775807 := by omega
  have hwk : IntKind.i64.wrap o.kind = o.kind := wrap_i64 (by omega) (by omega)
  have l1 := itoa_len h0 h1
  have l2 := itoa_len k0 k1
  have l3 := hexP_len o.data
  have hk1 : decide (o.kind = 1) = false := decide_eq_false (by omega)
  have hk2 : decide (o.kind = 2) = false := decide_eq_false (by omega)
  have hk3 : decide (o.kind = 3) = true := decide_eq_true (by omega)
  have hi : decide (o.index = 0) = false := decide_eq_false hi0
  rw [show lineP o = sOp ++ [32] ++ Lib.itoa o.kind ++ [32] ++ Lib.itoa o.index ++ [32] ++ hexP o.data by rw [lineP, if_neg (fun h => by have := h.1; omega), if_neg (by omega), if_neg (fun h => hi0 h.2.1)]; simp]
  refine fnIs_of tab_ok Tryz.func85 rfl rfl rfl ?_;refine sR ?_;refine rN ?_;refine rC ?_;refine nQ ?_;refine sR ?_;refine rC ?_;refine rQ iB ?_;iterate 2 refine rC ?_
  iterate 4 refine rS ?_
  refine rQ iF ?_;refine nS ?_;refine wG ?_;refine kS ?_;refine qR ?_;refine rC ?_;refine rQ iB ?_;refine rC ?_;refine nS ?_;refine wF ?_;refine kS ?_;refine qR ?_
  refine rC ?_;refine rQ iB ?_;iterate 2 refine rC ?_
  refine rO ?_;refine rC ?_;refine rO ?_;refine rQ iB ?_;refine rO ?_;refine rC ?_;refine rQ iT ?_;refine rC ?_;iterate 4 refine rS ?_
  refine rQ iF ?_;refine nS ?_;refine wG ?_;refine kS ?_;refine wc_seq ?_;refine wc_draw (by kernel_rfl) ?_;refine dC [1] [64] ?_;refine dQ [42] [64] iB ?_;refine dQ [43] [] (conv_int (m := o.kind) tab_ok rfl rfl rfl hwk) ?_
  refine dQ [44] [] (call_r (number_is _ k0 k1) rfl rfl (arg_e arg_nil) (.inl rfl) (fun _ => rfl)) ?_
  refine dQ [45] [] (add_str (a := sOp ++ [32]) (b := Lib.itoa o.kind) rfl rfl (by simp [sOp]; omega) rfl) ?_
  refine dQ [46] [] (add_str (a := sOp ++ [32] ++ Lib.itoa o.kind) (b := [32]) rfl rfl (by simp [sOp]; omega) rfl) ?_
  refine dC [1] [64] ?_;refine dQ [48] [64] iB ?_;refine dQ [49] [] (call_r (number_is _ h0 h1) rfl rfl (arg_e arg_nil) (.inl rfl) (fun _ => rfl)) ?_
  refine dQ [47, 50] [] (add_str (a := sOp ++ [32] ++ Lib.itoa o.kind ++ [32]) (b := Lib.itoa o.index) rfl rfl (by simp [sOp]; omega) rfl) ?_
  refine dQ [51] [] (add_str (a := sOp ++ [32] ++ Lib.itoa o.kind ++ [32] ++ Lib.itoa o.index) (b := [32]) rfl rfl (by simp [sOp]; omega) rfl) ?_
  refine dC [1] [64] ?_;refine dQ [53] [64] iB ?_;refine dQ [54] [] (call_r (rhex_is o.data hL) rfl rfl (arg_e arg_nil) (.inl rfl) (fun _ => rfl)) ?_
  refine dQ [52, 55] [] (add_str (a := sOp ++ [32] ++ Lib.itoa o.kind ++ [32] ++ Lib.itoa o.index ++ [32]) (b := hexP o.data) rfl rfl (by simp [sOp]; omega) rfl) ?_
  refine dC [56] [] ?_;refine dreg_end (by kernel_rfl) ?_;refine seq_n ?_;refine wc_ret ?_
  exact ⟨trivial, [], lf⟩
theorem rline_op4 (o : POp) (hok : o.Ok) (hL : o.data.length ≤ 1000000000) (hk : o.kind = 3) (hi0 : o.index = 0) (hd0 : ¬ o.data = []) : FnIs Tryz.prog 85 [.d (encPOp o)] [] (.d (strD (lineP o))) [] := by
  obtain ⟨⟨kk0, kk1⟩, h0, h1⟩ := hok
  have k0 : -9223372036854775808 ≤ o.kind := by omega
  have k1 : o.kind ≤ 9223372036854775807 := by omega
  have hwk : IntKind.i64.wrap o.kind = o.kind := wrap_i64 (by omega) (by omega)
  have l1 := itoa_len h0 h1
  have l2 := itoa_len k0 k1
  have l3 := hexP_len o.data
  have hk1 : decide (o.kind = 1) = false := decide_eq_false (by omega)
  have hk2 : decide (o.kind = 2) = false := decide_eq_false (by omega)
  have hk3 : decide (o.kind = 3) = true := decide_eq_true (by omega)
  have hi : decide (o.index = 0) = true := decide_eq_true hi0
  have hd := len0_iff o.data false (decide_eq_false hd0)
  rw [show lineP o = sOp ++ [32] ++ Lib.itoa o.kind ++ [32] ++ Lib.itoa o.index ++ [32] ++ hexP o.data by rw [lineP, if_neg (fun h => by have := h.1; omega), if_neg (by omega), if_neg (fun h => hd0 h.2.2)]; simp]
  refine fnIs_of tab_ok Tryz.func85 rfl rfl rfl ?_;refine sR ?_;refine rN ?_;refine rC ?_;refine nQ ?_;refine sR ?_;refine rC ?_;refine rQ iB ?_;iterate 2 refine rC ?_
  iterate 4 refine rS ?_
  refine rQ iF ?_;refine nS ?_;refine wG ?_;refine kS ?_;refine qR ?_;refine rC ?_;refine rQ iB ?_;refine rC ?_;refine nS ?_;refine wF ?_;refine kS ?_;refine qR ?_
  refine rC ?_;refine rQ iB ?_;iterate 2 refine rC ?_
  refine rO ?_;refine rC ?_;refine rO ?_;refine rQ iB ?_;refine rO ?_;refine rC ?_;refine rQ iT ?_;refine rC ?_;refine rO ?_;refine rC ?_;refine rO ?_;refine rQ iB ?_
  refine rO ?_;refine rQ iE ?_;refine rO ?_;refine rC ?_;refine rQ iT ?_;refine nS ?_;refine wF ?_;refine kS ?_;refine wc_seq ?_;refine wc_draw (by kernel_rfl) ?_
  refine dC [1] [64] ?_;refine dQ [42] [64] iB ?_;refine dQ [43] [] (conv_int (m := o.kind) tab_ok rfl rfl rfl hwk) ?_;refine dQ [44] [] (call_r (number_is _ k0 k1) rfl rfl (arg_e arg_nil) (.inl rfl) (fun _ => rfl)) ?_
  refine dQ [45] [] (add_str (a := sOp ++ [32]) (b := Lib.itoa o.kind) rfl rfl (by simp [sOp]; omega) rfl) ?_
  refine dQ [46] [] (add_str (a := sOp ++ [32] ++ Lib.itoa o.kind) (b := [32]) rfl rfl (by simp [sOp]; omega) rfl) ?_
  refine dC [1] [64] ?_;refine dQ [48] [64] iB ?_;refine dQ [49] [] (call_r (number_is _ h0 h1) rfl rfl (arg_e arg_nil) (.inl rfl) (fun _ => rfl)) ?_
  refine dQ [47, 50] [] (add_str (a := sOp ++ [32] ++ Lib.itoa o.kind ++ [32]) (b := Lib.itoa o.index) rfl rfl (by simp [sOp]; omega) rfl) ?_
  refine dQ [51] [] (add_str (a := sOp ++ [32] ++ Lib.itoa o.kind ++ [32] ++ Lib.itoa o.index) (b := [32]) rfl rfl (by simp [sOp]; omega) rfl) ?_
  refine dC [1] [64] ?_;refine dQ [53] [64] iB ?_;refine dQ [54] [] (call_r (rhex_is o.data hL) rfl rfl (arg_e arg_nil) (.inl rfl) (fun _ => rfl)) ?_
  refine dQ [52, 55] [] (add_str (a := sOp ++ [32] ++ Lib.itoa o.kind ++ [32] ++ Lib.itoa o.index ++ [32]) (b := hexP o.data) rfl rfl (by simp [sOp]; omega) rfl) ?_
  refine dC [56] [] ?_;refine dreg_end (by kernel_rfl) ?_;refine seq_n ?_;refine wc_ret ?_
  exact ⟨trivial, [], lf⟩
theorem rline_is (o : POp) (hok : o.Ok) (hL : o.data.length ≤ 1000000000) : FnIs Tryz.prog 85 [.d (encPOp o)] [] (.d (strD (lineP o))) [] := by
  by_cases k1 : o.kind = 1
  · by_cases hd : o.data = []
    · exact rline_read o hok hL k1 hd
    · exact rline_op1 o hok hL k1 hd
  by_cases k2 : o.kind = 2
  · exact rline_write o hok hL k2
  by_cases k3 : o.kind = 3
  · by_cases hi : o.index = 0
    · by_cases hd : o.data = []
      · exact rline_flush o hok hL k3 hi hd
      · exact rline_op4 o hok hL k3 hi hd
    · exact rline_op3 o hok hL k3 hi
  · exact rline_op2 o hok hL k1 k2 k3
end Go.Proofs.YtmojbghcngdkpaaGreatDoor

namespace Go.Proofs.YtmojbghcngdkpaaGreatDoor
open Go.Eng Go.Plain
set_option maxHeartbeats 4000000
set_option maxRecDepth 20000
attribute [local irreducible] WC RegS RegD SeqQ BlkQ ScoQ RegK CutK Sat SatN FnIs LoopQ StepIs OpIs
end Go.Proofs.YtmojbghcngdkpaaGreatDoor

namespace Go.Plain
open Go.Eng Go.Lib
end Go.Plain

namespace Go.Proofs.YtmojbghcngdkpaaGreatDoor
open Go.Eng Go.Plain
set_option maxHeartbeats 4000000
set_option maxRecDepth 20000
attribute [local irreducible] WC RegS RegD SeqQ BlkQ ScoQ RegK CutK Sat SatN FnIs LoopQ StepIs OpIs
end Go.Proofs.YtmojbghcngdkpaaGreatDoor

namespace Go.Proofs.YtmojbghcngdkpaaGreatDoor
open Go.Eng Go.Plain
set_option maxHeartbeats 4000000
set_option maxRecDepth 20000
attribute [local irreducible] WC RegS RegD SeqQ BlkQ ScoQ RegK CutK Sat SatN FnIs LoopQ StepIs OpIs
def o1 {α : Type} (o : Option α) : Int := match o with
  | some _ => 1
  | none => 0
abbrev intRes (o : Option Int) : AV := .tup (.acons (.int .i64 (o.getD 0)) (.acons (.int .i64 (o1 o)) .anil))
end Go.Proofs.YtmojbghcngdkpaaGreatDoor

namespace Go.Proofs.YtmojbghcngdkpaaGreatDoor
open Go.Eng Go.Plain
set_option maxHeartbeats 4000000
set_option maxRecDepth 20000
attribute [local irreducible] WC RegS RegD SeqQ BlkQ ScoQ RegK CutK Sat SatN FnIs LoopQ StepIs OpIs
def nV (l : List UInt8) : Nat := l.foldl (fun n c => n * 16 + nibV c) 0
abbrev byR (o : Option (List UInt8)) : AV := .tup (.acons (.d (encB (o.getD []))) (.acons (.int .i64 (o1 o)) .anil))
end Go.Proofs.YtmojbghcngdkpaaGreatDoor

namespace Go.Proofs.YtmojbghcngdkpaaGreatDoor
open Go.Eng Go.Plain
set_option maxHeartbeats 4000000
set_option maxRecDepth 20000
set_option linter.unusedVariables false
set_option linter.unusedSimpArgs false
attribute [local irreducible] WC RegS RegD SeqQ BlkQ ScoQ RegK CutK Sat SatN FnIs LoopQ StepIs OpIs
abbrev readA (o : Option POp) : AV := .tup (.acons (.d (encPOp (o.getD opNil))) (.acons (.int .i64 (o1 o)) .anil))
def finR (s : List UInt8) (o : Option POp) : Option POp := match o with
  | some o => if lineP o = s then some o else none
  | none => none
def op4 (o : Option Int) (x y : List UInt8) : Option POp := match o with
  | some k => Plain.opR k x y
  | none => none
end Go.Proofs.YtmojbghcngdkpaaGreatDoor

namespace Go.Eng
open Go.RowKit Go.Sort
abbrev encI64 (n : Int) : D := .sc (.int .i64 n)
variable {P : Program}
end Go.Eng

namespace Go.Eng
open Go.RowKit
variable {P : Program} {f : FuncId} {avs avs' : List AV} {h0 : List (Nat × Row)} {res : AV}
def Tells (avs : List AV) (h0 : List (Nat × Row)) (avs' : List AV) (h0' : List (Nat × Row)) : Prop :=
  ∀ (C : Ctx) (G : Nat → Prop) (σ : Place) (w : World) (a : Act), StRel C G (inSt avs h0) σ w a → StRel C G (inSt avs' h0') σ w a
def FreeRes (res : AV) : Prop := (∀ (σ σ' : Place) (w w' : World) (X X' : Nat → Prop) (v : Value), RelV σ w X res v → RelV σ' w' X' res v) ∧ ∀ G : Nat → Prop, res.within G
end Go.Eng

namespace Go.Eng
open Go.RowKit
theorem Frz.row_le {r : Nat} {row row' : Row} {a a' : AV} (h : RowLe row row') (hf : Frz r row' a a') : Frz r row a a' :=
  ⟨hf.1, hf.2.1, hf.2.2.1, fun σ w X X' hx hn hr cs hc => hf.2.2.2 σ w X X' hx hn (h σ w X r hr) cs hc⟩
end Go.Eng

namespace Go.Proofs.YtmojbghcngdkpaaGreatDoor
open Go.Eng Go.Plain
set_option maxHeartbeats 4000000
set_option maxRecDepth 20000
set_option linter.unusedVariables false
attribute [local irreducible] WC RegS RegD SeqQ BlkQ ScoQ RegK CutK Sat SatN FnIs LoopQ StepIs OpIs
abbrev rpR (x : List (List POp) × Nat × Int) : AV := .tup (.acons (.d (encPL x.1)) (.acons (.int .i64 (x.2.1 : Nat)) (.acons (.int .i64 x.2.2) .anil)))
@[reducible] noncomputable def qSt (s : List UInt8) (W : List (List UInt8)) : Option (List (List POp) × List POp) × Nat → St
  | (none, i) => ⟨[(7, .int .i64 i), (6, .d (.sc nil_)), (5, .d (.arr 1 strD W))], [], 72, Tryz.f50.ntmps, 64⟩
  | (some (l, p), i) => ⟨[(7, .int .i64 i), (6, .own 65 0 (l.length + 1) 1 none), (5, .d (.arr 1 strD W))], [(65, some (rowL p l (l.length + 1) 66)), (66, some (rowP p))], 72, Tryz.f50.ntmps, 64⟩
def QInv (W : List (List UInt8)) : Option (List (List POp) × List POp) × Nat → Prop
  | (q, i) => i ≤ W.length ∧ parseR (W.drop i) i (toL q) = parseR W 0 [] ∧ chkP (toL q) = 0
end Go.Proofs.YtmojbghcngdkpaaGreatDoor

namespace Go.Plain
open Go.Lib
abbrev sortI (l : List Int) : List Int := l.mergeSort fun x y => decide (x ≤ y)
end Go.Plain

namespace Go.Proofs.YtmojbghcngdkpaaGreatDoor
open Go.Eng Go.Plain Go.Lib
def insL (n : Int) : List Int → List Int
  | [] => [n]
  | x :: l => if n ≤ x then n :: (x :: l).filter (fun y => decide (y ≠ n)) else x :: insL n l
def wOut (n : Int) (s : List Int × Bool) : List Int := if s.2 = true then s.1 else s.1 ++ [n]
def idxL (b : Int) (l : List POp) : List Int := (l.filter (touB b)).map POp.index
end Go.Proofs.YtmojbghcngdkpaaGreatDoor

namespace Go.Proofs.YtmojbghcngdkpaaGreatDoor
open Go.Eng Go.Plain Go.RowKit
set_option maxHeartbeats 4000000
set_option maxRecDepth 20000
attribute [local irreducible] WC RegS RegD SeqQ BlkQ ScoQ RegK CutK Sat SatN FnIs LoopQ StepIs OpIs
end Go.Proofs.YtmojbghcngdkpaaGreatDoor

namespace Go.Proofs.YtmojbghcngdkpaaGreatDoor
open Go.Eng Go.Plain
set_option maxHeartbeats 4000000
set_option maxRecDepth 20000
attribute [local irreducible] WC RegS RegD SeqQ BlkQ ScoQ RegK CutK Sat SatN FnIs LoopQ StepIs OpIs
@[reducible] def accA : List Int → AV
  | [] => .d (.sc nil_)
  | x :: xs => .own 65 0 (xs.length + 1) 1 none
@[reducible] def accH : List Int → Upds
  | [] => []
  | x :: xs => [(65, some (rowI (x :: xs)))]
@[reducible] noncomputable def tS1 (l : List (List POp)) (b : Int) (a : List Int × Nat) : St := ⟨[(12, .int .i64 a.2), (11, .int .i64 l.length), (10, .d (encPL l)), (5, accA a.1), (1, .int .i64 b)], accH a.1, 72, Tryz.f43.ntmps, 64⟩
@[reducible] noncomputable def tS2 (l : List (List POp)) (b : Int) (i : Nat) (p : List POp) (a : List Int × Nat) : St := ⟨[(18, .int .i64 a.2), (17, .int .i64 p.length), (16, .d (encP p)), (12, .int .i64 i), (11, .int .i64 l.length), (10, .d (encPL l)), (5, accA a.1), (1, .int .i64 b)], accH a.1, 72, Tryz.f43.ntmps, 64⟩
end Go.Proofs.YtmojbghcngdkpaaGreatDoor

namespace Go.Proofs.YtmojbghcngdkpaaGreatDoor
open Go.Eng Go.Plain
set_option maxHeartbeats 4000000
set_option maxRecDepth 20000
attribute [local irreducible] WC RegS RegD SeqQ BlkQ ScoQ RegK CutK Sat SatN FnIs LoopQ StepIs OpIs
def encV : Bool × POp → D
  | (true, o) => .cons (u8s o.kind) (.cons (i6 o.index) (.cons (.sc nil_) .nil))
  | (false, o) => encPOp o
def VOk (x : Bool × POp) : Prop := x.1 = true → x.2.data = []
theorem encV_le {w : World} {X : Nat → Prop} {x : Bool × POp} (hx : VOk x) {cs : List Value} (h : Enc w X (encV x) cs) : Enc w X (encPOp x.2) cs := by
  obtain ⟨b, o⟩ := x
  cases b with
  | false => exact h
  | true =>
    have hd : o.data = [] := hx rfl
    obtain ⟨c1, r1, rfl, h1, c2, r2, rfl, h2, c3, r3, rfl, h3, h4⟩ := h
    exact ⟨c1, _, rfl, h1, c2, _, rfl, h2, c3, r3, rfl, .inl ⟨by rw [hd]; rfl, h3.1⟩, h4⟩
theorem dle_arr {α β : Type} {s : Nat} {enc : α → D} {enc' : β → D} {g : α → β} {xs : List α} {ys : List β} (hy : ys = xs.map g) (h : ∀ x ∈ xs, DLe (enc x) (enc' (g x))) : DLe (.arr s enc xs) (.arr s enc' ys) := by
  subst hy
  rintro w X cs (⟨rfl, rfl⟩ | ⟨a, c, rfl, h1, h2, f, hf⟩)
  · exact .inl ⟨rfl, rfl⟩
  · refine .inr ⟨a, c, by rw [List.length_map], by rw [List.length_map]; exact h1, h2, f, fun i hi => ?_⟩
    rw [List.length_map] at hi
    obtain ⟨g1, g2, g3⟩ := hf i hi
    refine ⟨?_, g2, g3⟩
    rw [List.getElem_map]
    exact h _ (List.getElem_mem _) _ _ _ g1
abbrev encPV (l : List (Bool × POp)) : D := .arr 3 encV l
def pairV : List (List (Bool × POp)) := [[(true, ⟨1, 3, []⟩), (false, ⟨2, 1, [0, 255]⟩)], [(true, ⟨3, 0, []⟩)]]
def pairL : List (List POp) := [[⟨1, 3, []⟩, ⟨2, 1, [0, 255]⟩], [⟨3, 0, []⟩]]
abbrev vA : Bool × POp := (true, ⟨1, 3, []⟩)
abbrev vB : Bool × POp := (false, ⟨2, 1, [0, 255]⟩)
abbrev vC : Bool × POp := (true, ⟨3, 0, []⟩)
abbrev vAB : List (Bool × POp) := [vA, vB]
abbrev vC1 : List (Bool × POp) := [vC]
end Go.Proofs.YtmojbghcngdkpaaGreatDoor

namespace Go.Proofs.YtmojbghcngdkpaaGreatDoor
open Go.Eng Go.Plain
set_option maxHeartbeats 4000000
set_option maxRecDepth 20000
attribute [local irreducible] WC RegS RegD SeqQ BlkQ ScoQ RegK CutK Sat SatN FnIs LoopQ StepIs OpIs
structure PQ where
  kind : UInt8
  index : UInt8
  data : UInt8
def encQ (x : PQ) : D := .cons (u8s x.kind.toNat) (.cons (u8s x.index.toNat) (.cons (u8s x.data.toNat) .nil))
def qOf (x : PQ) : POp :=
  if x.kind.toNat % 9 < 4 then ⟨1, ((x.index.toNat % 22 : Nat) : Int) - 1, []⟩
  else if x.kind.toNat % 9 < 7 then ⟨2, ((x.index.toNat % 22 : Nat) : Int) - 1, List.replicate 32 x.data⟩
  else if x.kind.toNat % 9 = 8 then ⟨((x.data.toNat % 4 : Nat) : Int), (x.index.toNat : Int) - 100, List.replicate (x.index.toNat % 32) x.data⟩
  else ⟨3, 0, []⟩
theorem op_nil_le (k i : Int) : AVLe (.d (.cons (.sc (.int .u8 k)) (.cons (.sc (.int .i64 i)) (.cons (.sc nil_) .nil)))) (.d (encPOp ⟨k, i, []⟩)) :=
  AVLe.d (x := encV (true, ⟨k, i, []⟩)) (fun w X cs h => encV_le (x := (true, ⟨k, i, []⟩)) (fun _ => rfl) h) rfl
def fillL (d : Int) (n i : Nat) : List Int := List.replicate i d ++ List.replicate (n - i) 0
theorem fillL_zero (d : Int) (n : Nat) : fillL d n 0 = List.replicate n 0 := by simp [fillL]
theorem fillL_get {d : Int} {n i : Nat} (h : i < n) : (fillL d n i)[i]? = some 0 := by
  obtain ⟨k, hk⟩ : ∃ k, n - i = k + 1 := ⟨n - i - 1, by omega⟩
  rw [fillL, hk, List.getElem?_append_right (by simp), List.length_replicate, Nat.sub_self]
  rfl
theorem fillL_set {d : Int} {n i : Nat} (h : i < n) : (fillL d n i).set i d = fillL d n (i + 1) := by
  obtain ⟨k, hk⟩ : ∃ k, n - i = k + 1 := ⟨n - i - 1, by omega⟩
  rw [fillL, fillL, List.set_append_right _ _ (by simp), List.replicate_succ' (n := i), List.append_assoc, hk, show n - (i + 1) = k by omega, List.length_replicate, Nat.sub_self]
  rfl
theorem fillL_end (d : UInt8) (n : Nat) : fillL d.toNat n n = byI (List.replicate n d) := by simp [fillL, byI]
theorem qof_is (x : PQ) : FnIs Tryz.prog 91 [.d (encQ x)] [] (.d (encPOp (qOf x))) [] := by
  have hx1 := x.kind.toNat_lt
  have hx2 := x.index.toNat_lt
  have hx3 := x.data.toNat_lt
  refine fnIs_of tab_ok Tryz.func91 rfl rfl rfl ?_;refine sR ?_;iterate 2 refine rN ?_
  refine nR ?_;refine rQ iS ?_;refine rN ?_;refine rW ?_;refine nR ?_;refine reg_new (make_full (enc := encU8) (s := 1) (N := 32) tab_ok (0 : Int) rfl rfl rfl rfl rfl rfl rfl (by decide) rfl) rfl ?_
  refine rC ?_;refine nQ ?_;refine sR ?_;refine rC ?_;refine nS ?_;refine wc_block ?_
  refine wc_inv (fun i : Nat => ⟨[(5, .int .i64 i), (4, .own 67 0 32 1 none), (3, .ptr 66 []), (2, .ptr 65 []), (1, .ptr 64 [])], [(64, some (.box 102 (.d (encQ x)))), (65, some (.box 50 (.d (encV (true, opNil))))), (66, some (.box 50 (.d (encV (true, ⟨3, 0, []⟩))))), (67, some (.ds 5 1 true encU8 (fillL x.data.toNat 32 i)))], 72, Tryz.f91.ntmps, 64⟩) (fun i => i ≤ 32) (fun i => 32 - i) 0 [(64, some _), (65, some _), (66, some _), (67, some _)] (Nat.zero_le _)
    (.of rfl rfl rfl rfl rfl ⟨⟨_, rfl, .refl _⟩, rfl, ⟨_, rfl, .refl _⟩, rfl, ⟨_, rfl, .refl _⟩, rfl, ⟨_, rfl, .refl _⟩, rfl, ⟨_, rfl, .refl _⟩, rfl, trivial⟩ ⟨⟨rfl, rfl, _, rfl, .refl _⟩, ⟨rfl, rfl, _, rfl, .refl _⟩, ⟨rfl, rfl, _, rfl, .refl _⟩, ⟨rfl, rfl, _, rfl, RowLe.of_eq (by rw [fillL_zero]; rfl)⟩, trivial⟩) ?_
  intro i hi
  by_cases hlt : i < 32
  · have h3 : decide ((i : Int) < 32) = true := decide_eq_true (by omega)
    have hg : (fillL x.data.toNat 32 i)[((i : Int)).toNat]? = some 0 := by rw [Int.toNat_natCast]; exact fillL_get hlt
    have hset := fillL_set (d := (x.data.toNat : Int)) hlt
    refine wc_of ?_;refine qR ?_;iterate 2 refine rC ?_
    refine nS ?_;refine wT ?_;refine kS ?_;refine wc_seq ?_;refine wc_block ?_;refine wc_region ?_;iterate 3 refine rC ?_
    refine rQ iB ?_;refine rQ (index_own tab_ok rfl rfl rfl rfl rfl (by omega) (by omega)) ?_;refine reg_store (store_row tab_ok rfl rfl rfl ⟨rfl, (0 : Int), (x.data.toNat : Int), hg, ⟨rfl, rfl, rfl⟩, rfl⟩ rfl) ?_
    refine reg_nil ?_;refine blk_n ?_;refine seq_n ?_;refine wc_region ?_;refine rC ?_;refine rQ iD ?_;refine rC ?_;refine reg_nil ?_
    exact loop_n (i + 1) [] hlt (by omega) (.of rfl rfl rfl rfl rfl ⟨⟨_, rfl, .refl _⟩, rfl, ⟨_, rfl, .refl _⟩, rfl, ⟨_, rfl, .refl _⟩, rfl, ⟨_, rfl, .refl _⟩, rfl, ⟨_, rfl, .refl _⟩, rfl, trivial⟩ ⟨⟨rfl, rfl, _, rfl, .refl _⟩, ⟨rfl, rfl, _, rfl, .refl _⟩, ⟨rfl, rfl, _, rfl, .refl _⟩, ⟨rfl, rfl, _, rfl, RowLe.of_eq (congrArg (Row.ds 5 1 true encU8) hset)⟩, trivial⟩)
  · have he : i = 32 := by omega
    subst he
    rw [fillL_end]
    have h3 : decide (((32 : Nat) : Int) < 32) = false := rfl
    have hl32 : 32 = (byI (List.replicate 32 x.data)).length := by rw [byI_len, List.length_replicate]
    refine wc_of ?_;refine wc_freeze (env' := [(5, _), (4, _), (3, _), (2, _), (1, _)]) (h' := [(64, some _), (65, some _), (66, some _)]) 67 _ rfl ⟨⟨_, rfl, .refl _⟩, ⟨_, rfl, Frz.own hl32⟩, ⟨_, rfl, .refl _⟩, ⟨_, rfl, .refl _⟩, ⟨_, rfl, .refl _⟩, trivial⟩ ⟨⟨rfl, _, rfl, .refl _⟩, ⟨rfl, _, rfl, .refl _⟩, ⟨rfl, _, rfl, .refl _⟩, trivial⟩ ?_
    have hw27 : IntKind.i64.wrap ((x.index.toNat % 22 : Nat) : Int) = ((x.index.toNat % 22 : Nat) : Int) := wrap_i64 (by omega) (by omega)
    have hw48 : IntKind.i64.wrap (x.index.toNat : Int) = (x.index.toNat : Int) := wrap_i64 (by omega) (by omega)
    have h54 : ((x.index.toNat % 32 : Nat) : Int) ≤ (byI (List.replicate 32 x.data)).length := by rw [byI_len, List.length_replicate]; omega
    by_cases q4 : x.kind.toNat % 9 < 4
    · have d4 : decide (((x.kind.toNat % 9 : Nat) : Int) < 4) = true := decide_eq_true (by omega)
      rw [show qOf x = ⟨1, ((x.index.toNat % 22 : Nat) : Int) - 1, []⟩ by rw [qOf, if_pos q4]]
      refine qR ?_;iterate 2 refine rC ?_
      refine nS ?_;refine wG ?_;refine wc_exit ?_;refine seq_x ?_;refine loop_x ?_;refine blk_x ?_;refine seq_n ?_;refine qR ?_;refine rC ?_;refine rQ iB ?_;refine rQ (rem_nat (a := x.kind.toNat) (b := 9) tab_ok rfl rfl rfl (by decide)) ?_
      refine rC ?_;refine nS ?_;refine wc_block ?_;refine sR ?_;iterate 3 refine rC ?_
      refine nS ?_;refine wT ?_;refine wc_region ?_;refine rC ?_;refine rQ iB ?_;refine rQ (rem_nat (a := x.index.toNat) (b := 22) tab_ok rfl rfl rfl (by decide)) ?_;refine rQ (conv_int (m := ((x.index.toNat % 22 : Nat) : Int)) tab_ok rfl rfl rfl hw27) ?_
      refine rQ (sub_int tab_ok rfl rfl (wrap_i64 (by omega) (by omega))) ?_;refine rQ iS ?_;refine rW ?_;refine reg_nil ?_;refine blk_n ?_;refine seq_n ?_;refine sR ?_
      refine rQ iM ?_;refine rW ?_;refine nS ?_;refine wc_ret ?_
      exact ⟨trivial, _, rfl, [], .of rfl rfl rfl rfl rfl ⟨⟨_, rfl, op_nil_le _ _⟩, rfl, trivial⟩ trivial⟩
    have d4 : decide (((x.kind.toNat % 9 : Nat) : Int) < 4) = false := decide_eq_false (by omega)
    by_cases q7 : x.kind.toNat % 9 < 7
    · have d7 : decide (((x.kind.toNat % 9 : Nat) : Int) < 7) = true := decide_eq_true (by omega)
      rw [show qOf x = ⟨2, ((x.index.toNat % 22 : Nat) : Int) - 1, List.replicate 32 x.data⟩ by rw [qOf, if_neg q4, if_pos q7]]
      refine qR ?_;iterate 2 refine rC ?_
      refine nS ?_;refine wG ?_;refine wc_exit ?_;refine seq_x ?_;refine loop_x ?_;refine blk_x ?_;refine seq_n ?_;refine qR ?_;refine rC ?_;refine rQ iB ?_;refine rQ (rem_nat (a := x.kind.toNat) (b := 9) tab_ok rfl rfl rfl (by decide)) ?_
      refine rC ?_;refine nS ?_;refine wc_block ?_;refine sR ?_;iterate 3 refine rC ?_
      refine nS ?_;refine wF ?_;refine sR ?_;iterate 3 refine rC ?_
      refine nS ?_;refine wT ?_;refine wc_region ?_;refine rC ?_;refine rQ iB ?_;refine rQ (rem_nat (a := x.index.toNat) (b := 22) tab_ok rfl rfl rfl (by decide)) ?_;refine rQ (conv_int (m := ((x.index.toNat % 22 : Nat) : Int)) tab_ok rfl rfl rfl hw27) ?_
      refine rQ (sub_int tab_ok rfl rfl (wrap_i64 (by omega) (by omega))) ?_;refine rC ?_;refine rQ iS ?_;refine rW ?_;refine reg_nil ?_;refine blk_n ?_;refine seq_n ?_
      refine sR ?_;refine rQ iM ?_;refine rW ?_;refine nS ?_;refine wc_ret ?_
      exact ⟨trivial, _, rfl, [], lf⟩
    have d7 : decide (((x.kind.toNat % 9 : Nat) : Int) < 7) = false := decide_eq_false (by omega)
    by_cases q8 : x.kind.toNat % 9 = 8
    · have d8 : decide (((x.kind.toNat % 9 : Nat) : Int) = 8) = true := decide_eq_true (by omega)
      rw [show qOf x = ⟨((x.data.toNat % 4 : Nat) : Int), (x.index.toNat : Int) - 100, List.replicate (x.index.toNat % 32) x.data⟩ by rw [qOf, if_neg q4, if_neg q7, if_pos q8]]
      have ht : (byI (List.replicate 32 x.data)).take (((x.index.toNat % 32 : Nat) : Int)).toNat = byI (List.replicate (x.index.toNat % 32) x.data) := by
        rw [Int.toNat_natCast, byI, byI, ← List.map_take, List.take_replicate, Nat.min_eq_left (by omega)]
      refine qR ?_;iterate 2 refine rC ?_
      refine nS ?_;refine wG ?_;refine wc_exit ?_;refine seq_x ?_;refine loop_x ?_;refine blk_x ?_;refine seq_n ?_;refine qR ?_;refine rC ?_;refine rQ iB ?_;refine rQ (rem_nat (a := x.kind.toNat) (b := 9) tab_ok rfl rfl rfl (by decide)) ?_
      refine rC ?_;refine nS ?_;refine wc_block ?_;refine sR ?_;iterate 3 refine rC ?_
      refine nS ?_;refine wF ?_;refine sR ?_;iterate 3 refine rC ?_
      refine nS ?_;refine wF ?_;refine sR ?_;iterate 3 refine rC ?_
      refine nS ?_;refine wT ?_;refine wc_draw (by kernel_rfl) ?_;refine dC [1] [64] ?_;refine dQ [43] [64] iB ?_;refine dQ [44] [] (rem_nat (a := x.data.toNat) (b := 4) tab_ok rfl rfl rfl (by decide)) ?_
      refine dC [1] [64] ?_;refine dQ [46] [64] iB ?_;refine dQ [47] [] (conv_int (m := (x.index.toNat : Int)) tab_ok rfl rfl rfl hw48) ?_;refine dQ [48] [] (sub_int tab_ok rfl rfl (wrap_i64 (by omega) (by omega))) ?_
      refine dC [4] [] ?_;refine dC [1] [64] ?_;refine dQ [51] [64] iB ?_;refine dQ [52] [] (rem_nat (a := x.index.toNat) (b := 32) tab_ok rfl rfl rfl (by decide)) ?_
      refine dQ [50, 53] [] (slice_to (m := ((x.index.toNat % 32 : Nat) : Int)) tab_ok rfl rfl rfl rfl (by omega) h54) ?_;refine dQ [45, 49, 54] [] iS ?_;refine dreg_s [3, 55] [66] (store_row tab_ok rfl rfl rfl ⟨_, ⟨rfl, rfl, rfl⟩, rfl⟩ rfl) ?_
      refine dreg_end (by kernel_rfl) ?_;refine blk_n ?_;refine seq_n ?_;refine sR ?_;refine rQ iM ?_;refine rW ?_;refine nS ?_;refine wc_ret ?_
      rw [ht]
      exact ⟨trivial, _, rfl, [], lf⟩
    · have d8 : decide (((x.kind.toNat % 9 : Nat) : Int) = 8) = false := decide_eq_false (by omega)
      rw [show qOf x = ⟨3, 0, []⟩ by rw [qOf, if_neg q4, if_neg q7, if_neg q8]]
      refine qR ?_;iterate 2 refine rC ?_
      refine nS ?_;refine wG ?_;refine wc_exit ?_;refine seq_x ?_;refine loop_x ?_;refine blk_x ?_;refine seq_n ?_;refine qR ?_;refine rC ?_;refine rQ iB ?_;refine rQ (rem_nat (a := x.kind.toNat) (b := 9) tab_ok rfl rfl rfl (by decide)) ?_
      refine rC ?_;refine nS ?_;refine wc_block ?_;refine sR ?_;iterate 3 refine rC ?_
      refine nS ?_;refine wF ?_;refine sR ?_;iterate 3 refine rC ?_
      refine nS ?_;refine wF ?_;refine sR ?_;iterate 3 refine rC ?_
      refine nS ?_;refine wF ?_;refine wc_skip ?_;refine blk_n ?_;refine seq_n ?_;refine sR ?_;refine rQ iM ?_;refine rW ?_;refine nS ?_;refine wc_ret ?_
      exact ⟨trivial, _, rfl, [], .of rfl rfl rfl rfl rfl ⟨⟨_, rfl, op_nil_le _ _⟩, rfl, trivial⟩ trivial⟩
end Go.Proofs.YtmojbghcngdkpaaGreatDoor

namespace Go.Proofs.YtmojbghcngdkpaaGreatDoor
open Go.Eng Go.Plain
set_option maxHeartbeats 4000000
set_option maxRecDepth 20000
attribute [local irreducible] WC RegS RegD SeqQ BlkQ ScoQ RegK CutK Sat SatN FnIs LoopQ StepIs OpIs
abbrev encQs (q : List PQ) : D := .arr 3 encQ q
def encPP (l : List (List PQ)) : D := .cons (.arr 1 encQs l) .nil
def opsOf (q : List PQ) : List POp := (q.take 3).map qOf
def pOf (l : List (List PQ)) : List (List POp) := (l.take 3).map opsOf
end Go.Proofs.YtmojbghcngdkpaaGreatDoor

namespace Go.Eng
open Go.RowKit
variable {P : Program} {op : Op} {env : Env} {h : Upds} {n : Nat} {av av' : AV} {row : Row}
theorem StepIs.frozen (hs : StepIs P op env h n (some av) [(n, some row)]) (hf : Frz n row av av') : StepIs P op env h n (some av') [] := by
  intro C G st σ w a o ho hA hd hst hn hb next Q hnext
  refine hs C G st σ w a o ho hA hd hst hn hb next Q fun x w' σ' G' hst' h1 h2 => ?_
  have hnr : ∀ q row', st.row q = some row' → q ≠ n := fun q row' hq e => by
    subst e
    exact hn q (Nat.le_refl _) (by omega) (hst.rowsG _ _ hq).1
  have hrow : (st.put o.dst (some av) [(n, some row)]).row n = some row := by
    simp [St.put, St.row, lk_cons]
  have hrow2 : ∀ q row', q ≠ n → st.row q = some row' → (st.put o.dst (some av) [(n, some row)]).row q = some row' := fun q row' hq hr => by
    simp only [St.put, St.row, List.cons_append, List.nil_append, lk_cons, if_neg (Ne.symm hq)]
    exact hr
  refine hnext x w' σ' G' (hst'.freeze (st' := st.put o.dst (some av') []) n row hrow (fun i v' hi => ?_) (fun q x' hq => ?_) rfl rfl) h1 h2
  · cases hdst : o.dst with
    | none =>
      simp only [St.put, hdst] at hi ⊢
      exact ⟨v', hi, .refl _⟩
    | some d =>
      simp only [St.put, hdst, lk_cons] at hi ⊢
      split at hi
      · rename_i e
        rw [if_pos e]
        simp only [Option.some.injEq] at hi
        exact ⟨av, rfl, by rw [← hi]; exact hf⟩
      · rename_i e
        rw [if_neg e]
        exact ⟨v', hi, .refl _⟩
  · have hq' : st.row q = some x' := hq
    exact ⟨hnr q x' hq', x', hrow2 q x' (hnr q x' hq') hq', .refl _⟩
end Go.Eng

namespace Go.Eng
open Go.RowKit
variable {P : Program} {T : Tab} {env : Env} {h : Upds} {n : Nat}
def offsA (e s : Nat) : Nat → List (Nat × Nat)
  | 0 => []
  | k + 1 => offsA e s k ++ [(k * s, e)]
theorem offsA_len (e s : Nat) : ∀ k, (offsA e s k).length = k
  | 0 => rfl
  | k + 1 => by rw [offsA, List.length_append, offsA_len e s k]; rfl
theorem offsA_get {e s : Nat} : ∀ (m k o t : Nat), (offsA e s m)[k]? = some (o, t) → t = e ∧ o = k * s
  | 0, k, o, t, h => by simp [offsA] at h
  | m + 1, k, o, t, h => by
    rw [offsA] at h
    rcases Nat.lt_or_ge k m with hk | hk
    · rw [List.getElem?_append_left (by rw [offsA_len]; exact hk)] at h
      exact offsA_get m k o t h
    · rw [List.getElem?_append_right (by rw [offsA_len]; exact hk), offsA_len] at h
      have : k - m = 0 := by
        rcases Nat.eq_zero_or_pos (k - m) with e | e
        · exact e
        · rw [List.getElem?_eq_none (by simp; omega)] at h; cases h
      rw [this] at h
      simp only [List.getElem?_cons_zero, Option.some.injEq, Prod.mk.injEq] at h
      have e : k = m := by omega
      subst e
      exact ⟨h.2.symm, h.1.symm⟩
theorem build_arr (hT : TabOk P T) {t e len : Nat} {r re : TyR} {parts : Array (Nat × Operand)} {q : AV} (ht : lk T t = some r) (hd : r.desc = .array len e) (he : lk T e = some re) (hq : buildF T (offsA e re.size len) (evalA env) parts.toList (.d r.zero) = some q) (hag : q.isAgg = true) :
    StepIs P (.build t parts) env h n (some q) [] := .of_comes fun C G st σ w a o ho hA hdst hst hn => by
  obtain ⟨u, hu, hdu⟩ := (hT t r ht).und
  rw [hd] at hdu
  cases hdu
  obtain ⟨z, hz, hzc⟩ := (hT t r ht).run_zero w
  have henc : Rel σ w (st.X C.X0 σ) (.d r.zero) false z.cells.toList := by rw [← hzc]; exact Enc.closed _ _ _ (hT t r ht).zero
  obtain ⟨cs', hfill, h1, h2, h3⟩ := buildF_sound hT hst hA (pl := fun k => some (k * re.size, re.size)) (fun k o t' r' ho hr' => by
    obtain ⟨rfl, rfl⟩ := offsA_get _ _ _ _ ho
    rw [he] at hr'
    cases hr'
    rfl) parts.toList (.d r.zero) q z.cells.toList hq rfl trivial henc
  refine .quiet (u := .agg cs'.toArray) hst hdst ⟨rfl, rfl⟩ ?_ (by unfold RelV; rw [if_pos hag]; exact ⟨cs', rfl, h1⟩) h3
  have hcs : z.cells.toList.toArray = z.cells := by simp
  have hpt : (parts.map fun x => (x.1, a.eval x.2)).toList = parts.toList.map fun x => (x.1, a.eval x.2) := by simp
  rw [hcs, ← hpt] at hfill
  have hb : (Instr.build t (parts.map fun x => (x.1, a.eval x.2))).run P w = .ok (.agg cs'.toArray) w := by
    simp only [Instr.build, Sem.run_bind, hz, Result.andThen_ok, run_underlying hu, (hT e re he).run_size, hfill, Sem.run_pure]
  simp only [execOp, ho, Sem.run_bind]
  rw [show (parts.map fun (x : Nat × Operand) => match x with | (i, x) => (i, a.eval x)) = parts.map fun x => (x.1, a.eval x.2) from rfl, hb]
  rfl
end Go.Eng

namespace Go.Proofs.YtmojbghcngdkpaaGreatDoor
open Go.Eng Go.Plain
def tx1 : List UInt8 := [99, 108, 105, 101, 110, 116, 10, 114, 101, 97, 100, 32, 51, 10, 119, 114, 105, 116, 101, 32, 49, 32, 48, 48, 102, 102, 10, 99, 108, 105, 101, 110, 116, 10, 102, 108, 117, 115, 104, 10]
def tx2 : List UInt8 := [99, 108, 105, 101, 110, 116, 10, 111, 112, 32, 51, 32, 55, 32, 45, 10, 119, 114, 105, 116, 101, 32, 48, 32, 45, 10, 111, 112, 32, 49, 32, 49, 32, 48, 97, 10]
def list2 : List (List POp) := [[⟨3, 7, []⟩, ⟨2, 0, []⟩, ⟨1, 1, [10]⟩]]
abbrev vD : Bool × POp := (true, ⟨3, 7, []⟩)
abbrev vE : Bool × POp := (true, ⟨2, 0, []⟩)
abbrev vF : Bool × POp := (false, ⟨1, 1, [10]⟩)
abbrev list2V : List (List (Bool × POp)) := [[vD, vE, vF]]
def px0 : List UInt8 := [99, 108, 105, 101, 110, 116, 10, 114, 101, 97, 100, 32, 51]
def px1 : List UInt8 := [99, 108, 105, 101, 110, 116, 10, 111, 112, 32, 49, 32, 51, 32, 45, 10]
def px2 : List UInt8 := [114, 101, 97, 100, 32, 51, 10]
def px3 : List UInt8 := [99, 108, 105, 101, 110, 116, 10, 114, 101, 97, 100, 32, 48, 51, 10]
def okB (o : POp) : Bool := decide (0 ≤ o.kind) && decide (o.kind ≤ 255) && decide (-9223372036854775808 ≤ o.index) && decide (o.index ≤ 9223372036854775807)
def trip : List (List POp) := pairL ++ [[⟨2, 1, List.replicate 32 0⟩]]
end Go.Proofs.YtmojbghcngdkpaaGreatDoor

namespace Go.Proofs.YtmojbghcngdkpaaGreatDoor
open Go.Eng Go.Plain
set_option maxHeartbeats 4000000
set_option maxRecDepth 20000
attribute [local irreducible] WC RegS RegD SeqQ BlkQ ScoQ RegK CutK Sat SatN FnIs LoopQ StepIs OpIs
abbrev vW : Bool × POp := (false, ⟨2, 1, List.replicate 32 0⟩)
abbrev vW1 : List (Bool × POp) := [vW]
end Go.Proofs.YtmojbghcngdkpaaGreatDoor

namespace Go.Proofs.YtmojbghcngdkpaaGreatDoor
open Go.Eng Go.Plain
set_option maxHeartbeats 4000000
set_option maxRecDepth 20000
set_option linter.unusedVariables false
attribute [local irreducible] WC RegS RegD SeqQ BlkQ ScoQ RegK CutK Sat SatN FnIs LoopQ StepIs OpIs
def one (b : Bool) : Int := if b = true then 1 else 0
theorem qof_ok (x : PQ) : (qOf x).Ok := by
  have h1 := x.kind.toNat_lt
  have h2 := x.index.toNat_lt
  have h3 := x.data.toNat_lt
  unfold qOf
  split
  · exact ⟨⟨by show (0 : Int) ≤ 1; decide, by show (1 : Int) ≤ (255 : Int); decide⟩, ⟨by show -9223372036854775808 ≤ ((x.index.toNat % 22 : Nat) : Int) - 1; omega, by show ((x.index.toNat % 22 : Nat) : Int) - 1 ≤ 9223372036854775807; omega⟩⟩
  split
  · exact ⟨⟨by show (0 : Int) ≤ 2; decide, by show (2 : Int) ≤ (255 : Int); decide⟩, ⟨by show -9223372036854775808 ≤ ((x.index.toNat % 22 : Nat) : Int) - 1; omega, by show ((x.index.toNat % 22 : Nat) : Int) - 1 ≤ 9223372036854775807; omega⟩⟩
  split
  · exact ⟨⟨by show (0 : Int) ≤ ((x.data.toNat % 4 : Nat) : Int); omega, by show ((x.data.toNat % 4 : Nat) : Int) ≤ 255; omega⟩, ⟨by show -9223372036854775808 ≤ (x.index.toNat : Int) - 100; omega, by show (x.index.toNat : Int) - 100 ≤ 9223372036854775807; omega⟩⟩
  · exact ⟨⟨by decide, by decide⟩, ⟨by decide, by decide⟩⟩
theorem qof_data (x : PQ) : (qOf x).data.length ≤ 32 := by
  unfold qOf
  split
  · simp
  split
  · simp
  split
  · simp; omega
  · simp
end Go.Proofs.YtmojbghcngdkpaaGreatDoor

namespace Go.Proofs.YtmojbghcngdkpaaGreatDoor
open Go.Eng Go.Plain
theorem pu8_of {a : Int} (h : (Lit.int .u8 a).wf = true) : 0 ≤ a ∧ a ≤ 255 := by
  simp [Lit.wf, IntKind.min, IntKind.max, IntKind.bits, IntKind.signed] at h
  omega
def toB (l : List Int) : List UInt8 := l.map fun z => z.toNat.toUInt8
theorem u8_back {a : Int} (h : (Lit.int .u8 a).wf = true) : ((a.toNat.toUInt8.toNat : Nat) : Int) = a := by
  obtain ⟨h1, h2⟩ := pu8_of h
  simp only [Nat.toUInt8_eq, UInt8.toNat_ofNat']
  omega
end Go.Proofs.YtmojbghcngdkpaaGreatDoor

namespace Go.Proofs.YtmojbghcngdkpaaGreatDoor
open Go.ChangeShapes Go.WideShapes Go.ChangeAt Go.RowKit Go.Eng
theorem own : ownKnob Tryz.prog.godebug = none := by kernel_rfl
theorem laidOut : laidOutB Tryz.prog = true := by kernel_rfl
theorem gPow : Tryz.prog.globalNamed "internal/strconv.uint64pow10" = some 3 := by kernel_rfl
theorem gSyn : Tryz.prog.globalNamed "strconv.ErrSyntax" = some 1 := by kernel_rfl
theorem gRan : Tryz.prog.globalNamed "strconv.ErrRange" = some 2 := by kernel_rfl
theorem tPow : (Tryz.prog.globals[3]?).map (·.type) = some 253 := by kernel_rfl
theorem tSyn : (Tryz.prog.globals[1]?).map (·.type) = some 122 := by kernel_rfl
theorem tRan : (Tryz.prog.globals[2]?).map (·.type) = some 122 := by kernel_rfl
theorem block_of_var {P : Program} {w : World} {n : String} {g : Nat} {cs : Array Value} (hg : P.globalNamed n = some g) (h : w.var? P n = some cs) : ∃ t fr, w.heap[g]? = some (.cells cs t fr) := by
  unfold World.var? at h
  rw [hg] at h
  simp only [Option.bind_some] at h
  split at h
  · rename_i t fr hh
    cases h
    exact ⟨_, _, hh⟩
  · cases h
theorem globs_of {W : World} (hL : laidMetH Tryz.prog Rows.programsSameRow.laid W) (hsh : W.ShapedOpen Tryz.prog) : ∀ x ∈ globs, x.2 (W.heap[x.1]?) ∧ x.1 < W.heap.size := by
  rw [MakeChecks.laidMetH_plain _ _ _ (by kernel_rfl)] at hL
  obtain ⟨ps, ⟨_, _, _, _, _, _, _, _, _, _, ⟨_, _, _, _, _, _, _, _, _, _, ⟨g3, t3, cs3, f3, p3, q3, hg3, ht3, hv3, hd3, ⟨_, _, _, _, _, _, _, _, _, _, ⟨g2, t2, cs2, f2, p2, q2, hg2, ht2, hv2, hd2, ⟨g1, t1, cs1, f1, p1, q1, hg1, ht1, hv1, hd1, _, _⟩, _⟩, _⟩, _⟩, _⟩, _⟩, _, _⟩ := hL
  obtain rfl := Option.some.inj (gPow.symm.trans hg3)
  obtain rfl := Option.some.inj (gRan.symm.trans hg2)
  obtain rfl := Option.some.inj (gSyn.symm.trans hg1)
  obtain rfl := Option.some.inj (tPow.symm.trans ht3)
  obtain rfl := Option.some.inj (tRan.symm.trans ht2)
  obtain rfl := Option.some.inj (tSyn.symm.trans ht1)
  obtain ⟨_, u2, v2, hc2, _, _⟩ := iface_of_trod Tryz.underlying122 hd2
  obtain ⟨_, u1, v1, hc1, _, _⟩ := iface_of_trod Tryz.underlying122 hd1
  have hc3 : cs3.toList = Lib.pow10Tab.map fun z => Value.int .u64 z := Lib.cells_of_tab (zs := Lib.pow10Tab) Tryz.underlying253 Tryz.underlying212 (by kernel_rfl) (by kernel_rfl) hd3
  obtain ⟨a3, b3, hb3⟩ := block_of_var gPow hv3
  obtain ⟨a2, b2, hb2⟩ := block_of_var gRan hv2
  obtain ⟨a1, b1, hb1⟩ := block_of_var gSyn hv1
  obtain ⟨cs0, hh0, hs0, hr0⟩ := hsh.1 0 #[.int .i64 0] 3 (of_decide_eq_true (by kernel_rfl)) (by kernel_rfl)
  obtain ⟨m, hm⟩ := cell_of_shapedOpen_int (g := 0) (zero := #[.int .i64 0]) (t := 3) hsh (of_decide_eq_true (by kernel_rfl)) (by kernel_rfl) rfl (by kernel_rfl) (by kernel_rfl) Tryz.underlying3
  have he0 : ∃ fr, W.heap[0]? = some (.cells #[.int .i64 m] 3 fr) := by
    have h1 : cs0[0]? = some (.int .i64 m) := by
      have := hm
      simp only [World.cell?, hh0] at this
      exact this
    have h2 : cs0 = #[.int .i64 m] := by
      apply Array.ext'
      obtain ⟨l⟩ := cs0
      have hl : l.length = 1 := by simpa using hs0
      match l, hl, h1 with
      | [x], _, h1 => simpa using h1
    exact ⟨_, by rw [hh0, h2]⟩
  obtain ⟨fr0, he0⟩ := he0
  have e1 : cs1 = #[.iface u1 v1] := Array.ext' hc1
  have e2 : cs2 = #[.iface u2 v2] := Array.ext' hc2
  have e3 : cs3 = (Lib.pow10Tab.map fun z => Value.int .u64 z).toArray := Array.ext' (by simpa using hc3)
  intro x hx
  simp only [globs, List.mem_cons, List.not_mem_nil, or_false] at hx
  rcases hx with rfl | rfl | rfl | rfl
  · exact ⟨⟨m, 3, fr0, he0⟩, (Array.getElem?_eq_some_iff.1 he0).1⟩
  · refine ⟨⟨.iface u1 v1, a1, b1, ?_, .inr ⟨u1, v1, rfl⟩⟩, (Array.getElem?_eq_some_iff.1 hb1).1⟩
    rw [hb1, e1]
  · refine ⟨⟨.iface u2 v2, a2, b2, ?_, .inr ⟨u2, v2, rfl⟩⟩, (Array.getElem?_eq_some_iff.1 hb2).1⟩
    rw [hb2, e2]
  · refine ⟨⟨a3, b3, ?_⟩, (Array.getElem?_eq_some_iff.1 hb3).1⟩
    rw [hb3, e3]
theorem handed_of {H : Type} {enc : TypeId × Value → H} {a : Assume} {C : Checked} {os : Os} {f : FuncId} {fn : Func} {s : ChangeSpec} {conds : List PathCond} {apart fresh handsOn again : Bool} {X : World → Array Value → Prop}
    (hX : ∀ (w w' : World) (args : Array Value), w.heap = w'.heap → X w args → X w' args)
    (own : ownKnob C.prog.godebug = none) (started : os.Started) (noInit : C.prog.inits.idxOf? f = none) (hfn : C.prog.funcs[f]? = some fn)
    (witness : ∃ (w : World) (tape : Tape) (i : Input), w.os = os ∧ (w.forCall tape i).Shaped C.prog ∧ i.vars = [] ∧ Input.okWide C.prog (w.forCall tape i) .any w.heap.size f i ∧
      ((s.pre enc C.prog fn conds apart (w.forCall tape i).memory i.args ∧ X (w.forCall tape i).memory i.args) ∧ sizedMet enc C.prog fn (OpenSpec.ofChange s) apart (w.forCall tape i).memory i.args) ∧ a.holds C.prog (lone (Frame.enter C.prog f i.args .normal) [] (w.forCall tape i)))
    (contract : ∀ (W : World) (base : Nat) (args : Array Value) (ds gs : List (DataW H)) (before : List MemPlace),
      (∀ (j : Nat) t v, fn.params[j]? = some t → args[j]? = some v → Value.okWide C.prog W .any base t v) →
      DataW.Whole enc C.prog fn.params.toList s.vars apart W args.toList ds gs before →
      X W args → W.ShapedOpen C.prog →
      Calls C.prog f args W fun e W' => ∃ v, e = .returned v ∧ s.post enc C.prog fn apart fresh handsOn again W args v W') :
    ReturnsInHanded a C os f .any (fun w args => (s.pre enc C.prog fn conds apart w args ∧ X w args) ∧ sizedMet enc C.prog fn (OpenSpec.ofChange s) apart w args) (s.post enc C.prog fn apart fresh handsOn again) := by
  refine returnsInHanded_of_calls own started noInit witness ?_
  intro w tape i _ hsh _ hok hpre _
  obtain ⟨_, _, _, fn', hfn', _, _, _, _, hval⟩ := hok
  have e : fn' = fn := Option.some.inj (hfn'.symm.trans hfn)
  subst e
  obtain ⟨⟨⟨ds, gs, before, hw, hc⟩, hx⟩, hz⟩ := hpre
  have hw' := DataW.Whole.of_heap (w' := w.forCall tape i) (by rfl) hw
  refine (contract (w.forCall tape i) w.heap.size i.args ds gs before hval hw' (hX _ _ _ (by rfl) hx) hsh).mono fun e W' ⟨v, he, hp⟩ => ?_
  subst he
  exact ChangeSpec.post_blind hp
end Go.Proofs.YtmojbghcngdkpaaGreatDoor

namespace Go.Proofs.YtmojbghcngdkpaaGreatDoor
open Go
theorem and2 {a b : Bool} (h : a = true) (k : b = true) : (a && b) = true := by rw [h, k]; rfl
theorem pf_maps : mapsRowed Tryz.prog = true := by kernel_rfl
theorem pf_keys : (Rows.programsSameRow.plainKeys == Tryz.prog.plainKeys) = true := by kernel_rfl
theorem pf_heard : Tryz.prog.stopsHeard = true := by kernel_rfl
theorem pf_enter : Tryz.prog.mayEnter = true := by kernel_rfl
theorem pf_lifts : (Rows.programsSameRow.lifted == Tryz.prog.liftsFinal) = true := by kernel_rfl
theorem pf_make : (Tryz.prog.make == some Rows.programsSameRow.make) = true := by kernel_rfl
end Go.Proofs.YtmojbghcngdkpaaGreatDoor
