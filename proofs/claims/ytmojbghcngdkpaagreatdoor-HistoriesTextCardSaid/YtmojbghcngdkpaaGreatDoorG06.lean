/- Texts of the proof: H21, H17, H18, H19, H20, H22, H13, H23, H24, H27, H28, H29, H25, H26, H30, H31, H32, HW, H33, H34, HO. -/
import Derived.Test.YtmojbghcngdkpaaGreatDoorG05
import Derived.Test.YtmojbghcngdkpaaGreatDoorG04
import Derived.Test.YtmojbghcngdkpaaGreatDoorG02
import Derived.Test.YtmojbghcngdkpaaGreatDoorG03

set_option linter.unusedVariables false
set_option linter.unusedSimpArgs false
set_option linter.unusedSectionVars false

namespace Go.Proofs.YtmojbghcngdkpaaGreatDoor
open Go.Eng Go.Plain
set_option maxHeartbeats 8000000
set_option maxRecDepth 20000
attribute [local irreducible] WC RegS RegD SeqQ BlkQ ScoQ RegK CutK Sat SatN FnIs LoopQ StepIs OpIs
theorem rword_is (e : Int) : FnIs Tryz.prog 113 [.int .i64 e] [] (.d (strD (rword e))) [] := by
  refine fnIs_of tab_ok Tryz.func113 rfl rfl rfl ?_
  unfold rword
  by_cases e1 : e = 1
  · have d1 : decide (e = 1) = true := decide_eq_true e1
    rw [if_pos e1]
    refine sR ?_;refine rC ?_;refine nQ ?_;refine sR ?_;refine rC ?_;refine nS ?_;refine wc_block ?_;refine sR ?_;iterate 2 refine rC ?_
    refine nS ?_;refine wT ?_;refine sR ?_;refine rC ?_;refine nS ?_;refine wc_ret ?_;refine blk_r ?_;refine seq_r ?_
    exact ⟨trivial, [], lf⟩
  have d1 : decide (e = 1) = false := decide_eq_false e1
  rw [if_neg e1]
  by_cases e8 : e = 8
  · have d8 : decide (e = 8) = true := decide_eq_true e8
    rw [if_pos e8]
    refine sR ?_;refine rC ?_;refine nQ ?_;refine sR ?_;refine rC ?_;refine nS ?_;refine wc_block ?_;refine sR ?_;iterate 2 refine rC ?_
    refine nS ?_;refine wF ?_;refine sR ?_;iterate 2 refine rC ?_
    refine nS ?_;refine wT ?_;refine sR ?_;refine rC ?_;refine nS ?_;refine wc_ret ?_;refine blk_r ?_;refine seq_r ?_
    exact ⟨trivial, [], lf⟩
  have d8 : decide (e = 8) = false := decide_eq_false e8
  rw [if_neg e8]
  by_cases e9 : e = 9
  · have d9 : decide (e = 9) = true := decide_eq_true e9
    rw [if_pos e9]
    refine sR ?_;refine rC ?_;refine nQ ?_;refine sR ?_;refine rC ?_;refine nS ?_;refine wc_block ?_;refine sR ?_;iterate 2 refine rC ?_
    refine nS ?_;refine wF ?_;refine sR ?_;iterate 2 refine rC ?_
    refine nS ?_;refine wF ?_;refine sR ?_;iterate 2 refine rC ?_
    refine nS ?_;refine wT ?_;refine sR ?_;refine rC ?_;refine nS ?_;refine wc_ret ?_;refine blk_r ?_;refine seq_r ?_
    exact ⟨trivial, [], lf⟩
  have d9 : decide (e = 9) = false := decide_eq_false e9
  rw [if_neg e9]
  refine sR ?_;refine rC ?_;refine nQ ?_;refine sR ?_;refine rC ?_;refine nS ?_;refine wc_block ?_;refine sR ?_;iterate 2 refine rC ?_
  refine nS ?_;refine wF ?_;refine sR ?_;iterate 2 refine rC ?_
  refine nS ?_;refine wF ?_;refine sR ?_;iterate 2 refine rC ?_
  refine nS ?_;refine wF ?_;refine wc_skip ?_;refine blk_n ?_;refine seq_n ?_;refine sR ?_;refine rC ?_;refine nS ?_;refine wc_ret ?_
  exact ⟨trivial, [], lf⟩
theorem rword_len (e : Int) : (rword e).length ≤ 9 := by
  unfold rword
  split
  · decide
  · split
    · decide
    · split <;> decide
theorem rline24_is (x : HEv) (hok : x.Ok) (hd : x.op.data.length ≤ 1000000) : FnIs Tryz.prog 74 [.d (encEv x)] [] (.d (strD (rlineE x))) [] := by
  have hdL : x.op.data.length ≤ 1000000000 := by omega
  have hil := itoa_len hok.client.1 hok.client.2
  have hll := line_len hok.op
  have hwl := rword_len x.err
  have hvl := hok.value
  have hhl := hexP_len x.value
  unfold rlineE
  refine fnIs_of tab_ok Tryz.func74 rfl rfl rfl ?_;refine sR ?_;refine rN ?_;refine rC ?_;refine nS ?_;refine wc_freeze (env' := [(1, _), (2, _), (0, _)]) (h' := []) 64 _ rfl ⟨⟨_, rfl, Frz.ptr⟩, ⟨_, rfl, .refl _⟩, ⟨_, rfl, .refl _⟩, trivial⟩ trivial ?_
  by_cases k3 : x.kind = 3
  · have d3 : decide (x.kind = 3) = true := decide_eq_true k3
    rw [if_pos k3]
    refine qR ?_;refine rQ (fieldAddr_pt tab_ok rfl rfl rfl rfl) ?_;refine rQ iL ?_;refine rC ?_;refine nS ?_;refine wT ?_;refine sR ?_;refine rC ?_;refine nS ?_;refine wc_ret ?_
    refine seq_r ?_
    exact ⟨trivial, [], lf⟩
  have d3 : decide (x.kind = 3) = false := decide_eq_false k3
  rw [if_neg k3]
  by_cases k1 : x.kind = 1
  · have d1 : decide (x.kind = 1) = true := decide_eq_true k1
    rw [if_pos k1]
    refine qR ?_;refine rQ (fieldAddr_pt tab_ok rfl rfl rfl rfl) ?_;refine rQ iL ?_;refine rC ?_;refine nS ?_;refine wF ?_;refine kS ?_;refine qR ?_;refine rQ (fieldAddr_pt tab_ok rfl rfl rfl rfl) ?_
    refine rQ iL ?_;refine rC ?_;refine nS ?_;refine wT ?_;refine wc_seq ?_;refine wc_draw (by kernel_rfl) ?_;refine dQ [1] [] (fieldAddr_pt tab_ok rfl rfl rfl rfl) ?_
    refine dQ [11] [] iL ?_;refine dQ [12] [] (call_r (number_is x.client hok.client.1 hok.client.2) rfl rfl (arg_e arg_nil) (.inl rfl) (fun _ => rfl)) ?_
    refine dQ [13] [] (add_str (a := sInvoke ++ [32]) (b := Lib.itoa x.client) rfl rfl (by simp [sInvoke]; omega) rfl) ?_
    refine dQ [14] [] (add_str (a := (sInvoke ++ [32]) ++ Lib.itoa x.client) (b := [32]) rfl rfl (by simp [sInvoke]; omega) rfl) ?_
    refine dQ [1] [] (fieldAddr_pt tab_ok rfl rfl rfl rfl) ?_;refine dQ [16] [] iL ?_;refine dQ [17] [] (call_r (rline_is x.op hok.op hdL) rfl rfl (arg_e arg_nil) (.inl rfl) (fun _ => rfl)) ?_
    refine dQ [15, 18] [] (add_str (a := (sInvoke ++ [32]) ++ Lib.itoa x.client ++ [32]) (b := lineP x.op) rfl rfl (by simp [sInvoke]; omega) rfl) ?_
    refine dC [19] [] ?_;refine dreg_end (by kernel_rfl) ?_;refine seq_n ?_;refine wc_ret ?_;refine seq_r ?_
    exact ⟨trivial, [], lf⟩
  have d1 : decide (x.kind = 1) = false := decide_eq_false k1
  rw [if_neg k1]
  by_cases hz : x.value = zBk
  · have dz : (!decide (x.value = zBk)) = false := by rw [decide_eq_true hz]; rfl
    rw [if_pos hz, List.append_nil]
    refine qR ?_;refine rQ (fieldAddr_pt tab_ok rfl rfl rfl rfl) ?_;refine rQ iL ?_;refine rC ?_;refine nS ?_;refine wF ?_;refine kS ?_;refine qR ?_;refine rQ (fieldAddr_pt tab_ok rfl rfl rfl rfl) ?_
    refine rQ iL ?_;refine rC ?_;refine nS ?_;refine wF ?_;refine kS ?_;refine wc_seq ?_;refine wc_draw (by kernel_rfl) ?_;refine dQ [1] [] (fieldAddr_pt tab_ok rfl rfl rfl rfl) ?_
    refine dQ [20] [] iL ?_;refine dQ [21] [] (call_r (number_is x.client hok.client.1 hok.client.2) rfl rfl (arg_e arg_nil) (.inl rfl) (fun _ => rfl)) ?_
    refine dQ [22] [] (add_str (a := sReturn ++ [32]) (b := Lib.itoa x.client) rfl rfl (by simp [sReturn]; omega) rfl) ?_
    refine dQ [23] [] (add_str (a := (sReturn ++ [32]) ++ Lib.itoa x.client) (b := [32]) rfl rfl (by simp [sReturn]; omega) rfl) ?_
    refine dQ [1] [] (fieldAddr_pt tab_ok rfl rfl rfl rfl) ?_;refine dQ [25] [] iL ?_;refine dQ [26] [] (call_r (rword_is x.err) rfl rfl (arg_e arg_nil) (.inl rfl) (fun _ => rfl)) ?_
    refine dQ [24, 27] [] (add_str (a := (sReturn ++ [32]) ++ Lib.itoa x.client ++ [32]) (b := rword x.err) rfl rfl (by simp [sReturn]; omega) rfl) ?_
    refine dC [28] [] ?_;refine dreg_end (by kernel_rfl) ?_;refine seq_n ?_;refine sR ?_;refine rQ (build_array tab_ok rfl rfl rfl) ?_;refine rN ?_;refine rW ?_;refine nQ ?_
    refine sR ?_;refine rQ (fieldAddr_pt tab_ok rfl rfl rfl rfl) ?_;refine rQ iL ?_;refine rQ iM ?_;refine rQ (neq_data rfl rfl rfl rfl (by kernel_rfl) (by decide) (block_eq x.value zBk)) ?_
    refine nS ?_;refine wF ?_;refine kS ?_;refine sR ?_;iterate 2 refine rC ?_
    refine nS ?_;refine wc_ret ?_
    exact ⟨trivial, [], lf⟩
  · have dz : (!decide (x.value = zBk)) = true := by rw [decide_eq_false hz]; rfl
    rw [if_neg hz, ← List.append_assoc]
    refine qR ?_;refine rQ (fieldAddr_pt tab_ok rfl rfl rfl rfl) ?_;refine rQ iL ?_;refine rC ?_;refine nS ?_;refine wF ?_;refine kS ?_;refine qR ?_;refine rQ (fieldAddr_pt tab_ok rfl rfl rfl rfl) ?_
    refine rQ iL ?_;refine rC ?_;refine nS ?_;refine wF ?_;refine kS ?_;refine wc_seq ?_;refine wc_draw (by kernel_rfl) ?_;refine dQ [1] [] (fieldAddr_pt tab_ok rfl rfl rfl rfl) ?_
    refine dQ [20] [] iL ?_;refine dQ [21] [] (call_r (number_is x.client hok.client.1 hok.client.2) rfl rfl (arg_e arg_nil) (.inl rfl) (fun _ => rfl)) ?_
    refine dQ [22] [] (add_str (a := sReturn ++ [32]) (b := Lib.itoa x.client) rfl rfl (by simp [sReturn]; omega) rfl) ?_
    refine dQ [23] [] (add_str (a := (sReturn ++ [32]) ++ Lib.itoa x.client) (b := [32]) rfl rfl (by simp [sReturn]; omega) rfl) ?_
    refine dQ [1] [] (fieldAddr_pt tab_ok rfl rfl rfl rfl) ?_;refine dQ [25] [] iL ?_;refine dQ [26] [] (call_r (rword_is x.err) rfl rfl (arg_e arg_nil) (.inl rfl) (fun _ => rfl)) ?_
    refine dQ [24, 27] [] (add_str (a := (sReturn ++ [32]) ++ Lib.itoa x.client ++ [32]) (b := rword x.err) rfl rfl (by simp [sReturn]; omega) rfl) ?_
    refine dC [28] [] ?_;refine dreg_end (by kernel_rfl) ?_;refine seq_n ?_;refine sR ?_;refine rQ (build_array tab_ok rfl rfl rfl) ?_;refine rN ?_;refine rW ?_;refine nQ ?_
    refine sR ?_;refine rQ (fieldAddr_pt tab_ok rfl rfl rfl rfl) ?_;refine rQ iL ?_;refine rQ iM ?_;refine rQ (neq_data rfl rfl rfl rfl (by kernel_rfl) (by decide) (block_eq x.value zBk)) ?_
    refine nS ?_;refine wT ?_;refine wc_region ?_;refine rC ?_
    refine rQ (add_str (a := (sReturn ++ [32]) ++ Lib.itoa x.client ++ [32] ++ rword x.err) (b := [32]) rfl rfl (by simp [sReturn]; omega) rfl) ?_
    refine rQ (fieldAddr_pt tab_ok rfl rfl rfl rfl) ?_;refine rQ (slice_ipt tab_ok rfl rfl rfl rfl rfl) ?_;refine rQ (call_r (rhex_is x.value (by omega)) rfl rfl (arg_e arg_nil) (.inl rfl) (fun _ => rfl)) ?_
    refine rQ (add_str (a := (sReturn ++ [32]) ++ Lib.itoa x.client ++ [32] ++ rword x.err ++ [32]) (b := hexP x.value) rfl rfl (by simp [sReturn]; omega) rfl) ?_
    refine rC ?_;refine nR ?_;iterate 2 refine rC ?_
    refine nS ?_;refine wc_ret ?_
    exact ⟨trivial, [], lf⟩
def rtextE (h : List HEv) : List UInt8 := h.flatMap fun x => rlineE x ++ [10]
theorem rtextE_take {h : List HEv} {i : Nat} {x : HEv} (hx : h[i]? = some x) : rtextE (h.take (i + 1)) = rtextE (h.take i) ++ rlineE x ++ [10] := by
  rw [List.take_add_one, hx]; simp [rtextE]
theorem rtextE_le (h : List HEv) (i : Nat) : (rtextE (h.take i)).length ≤ (rtextE h).length := by
  have := congrArg (fun l => (rtextE l).length) (List.take_append_drop i h)
  simp only [rtextE, List.flatMap_append, List.length_append] at this
  unfold rtextE
  omega
theorem rtext24_is (h : List HEv) (hL : h.length ≤ 1000000) (hok : ∀ x ∈ h, x.Ok ∧ x.op.data.length ≤ 1000000) (hT : (rtextE h).length ≤ 1000000000000) : FnIs Tryz.prog 31 [.d (encH h)] [] (.d (strD (rtextE h))) [] := by
  refine fnIs_of tab_ok Tryz.func31 rfl rfl rfl ?_;refine sR ?_;refine rC ?_;refine nR ?_;refine rC ?_;refine nQ ?_;refine sR ?_;refine rC ?_;refine nS ?_;refine wc_block ?_
  refine wc_inv (fun i : Nat => ⟨[(4, .int .i64 i), (3, .d (strD (rtextE (h.take i)))), (0, .d (encH h))], [], 72, Tryz.f31.ntmps, 64⟩) (fun i => i ≤ h.length) (fun i => h.length - i) 0 [] (Nat.zero_le _)
    (.of rfl rfl rfl rfl rfl ⟨⟨_, rfl, .refl _⟩, rfl, ⟨_, rfl, .refl _⟩, rfl, ⟨_, rfl, .refl _⟩, rfl, trivial⟩ trivial) ?_
  intro i hi
  refine wc_of ?_
  by_cases hlt : i < h.length
  · have c1 : decide ((i : Int) < (h.length : Int)) = true := decide_eq_true (by omega)
    obtain ⟨x, hx⟩ : ∃ x, h[i]? = some x := ⟨_, List.getElem?_eq_getElem hlt⟩
    have hx' : h[((i : Int)).toNat]? = some x := by rw [Int.toNat_natCast]; exact hx
    obtain ⟨hokx, hdx⟩ := hok x (List.mem_of_getElem? hx)
    have hgo := rtextE_take hx
    have hle := rtextE_le h (i + 1)
    rw [hgo, List.length_append, List.length_append, List.length_singleton] at hle
    refine qR ?_;iterate 2 refine rC ?_
    refine rQ iE ?_;refine rC ?_;refine nS ?_;refine wT ?_;refine kS ?_;refine wc_seq ?_;refine wc_block ?_;refine wc_region ?_;iterate 3 refine rC ?_
    refine rQ (index_arr tab_ok rfl rfl rfl rfl rfl (by omega) hx') ?_;refine rQ iL ?_;refine rQ (call_r (rline24_is x hokx hdx) rfl rfl (arg_e arg_nil) (.inl rfl) (fun _ => rfl)) ?_
    refine rQ (add_str (a := rtextE (h.take i)) (b := rlineE x) rfl rfl (by omega) rfl) ?_
    refine rQ (add_str (a := rtextE (h.take i) ++ rlineE x) (b := [10]) rfl rfl (by simp only [List.length_append, List.length_singleton]; omega) rfl) ?_
    refine rC ?_;refine reg_nil ?_;refine blk_n ?_;refine seq_n ?_;refine wc_region ?_;refine rC ?_;refine rQ iD ?_;refine rC ?_;refine reg_nil ?_
    exact loop_n (i + 1) [] hlt (by omega) (.of rfl rfl rfl rfl rfl ⟨⟨_, rfl, .refl _⟩, rfl, ⟨_, rfl, AVLe.of_eq (congrArg (fun l => AV.d (strD l)) hgo.symm)⟩, rfl, ⟨_, rfl, .refl _⟩, rfl, trivial⟩ trivial)
  · have c1 : decide ((i : Int) < (h.length : Int)) = false := decide_eq_false (by omega)
    have he : i = h.length := by omega
    subst he
    rw [List.take_length]
    refine qR ?_;iterate 2 refine rC ?_
    refine rQ iE ?_;refine rC ?_;refine nS ?_;refine wF ?_;refine wc_exit ?_;refine seq_x ?_;refine loop_x ?_;refine blk_x ?_;refine seq_n ?_;refine sR ?_;iterate 2 refine rC ?_
    refine nS ?_;refine wc_ret ?_
    exact ⟨trivial, [], lf⟩
end Go.Proofs.YtmojbghcngdkpaaGreatDoor

namespace Go.Proofs.YtmojbghcngdkpaaGreatDoor
open Go.Eng Go.Plain
set_option maxHeartbeats 8000000
set_option maxRecDepth 20000
attribute [local irreducible] WC RegS RegD SeqQ BlkQ ScoQ RegK CutK Sat SatN FnIs LoopQ StepIs OpIs
def cntC (l : List HOp) (c : Int) : Int := (l.countP fun o => decide (o.client = c) : Nat)
def retOf (c : Int) : List HEv → Nat → Option (Nat × HEv)
  | [], _ => none
  | x :: l, k => if x.kind = 3 then none else if x.client = c then some (k, x) else retOf c l (k + 1)
def opBase (x : HEv) (i : Nat) (era n : Int) : HOp := ⟨x.client, n, era, x.op, i, -1, zBk, 0⟩
def opAns (o : HOp) : Option (Nat × HEv) → HOp
  | none => o
  | some (k, y) => { o with returned := k, value := y.value, err := y.err }
def mkOp (h : List HEv) (i : Nat) (x : HEv) (out : List HOp) (era : Int) : HOp := opAns (opBase x i era (cntC out x.client)) (retOf x.client (h.drop (i + 1)) (i + 1))
def opsRG (h : List HEv) : Nat → Nat → List HOp → Int → List HOp
  | 0, _, out, _ => out
  | n + 1, i, out, era => match h[i]? with
    | none => out
    | some x => if x.kind = 3 then opsRG h n (i + 1) out (era + 1) else if x.kind = 1 then opsRG h n (i + 1) (out ++ [mkOp h i x out era]) era else opsRG h n (i + 1) out era
def opsR (h : List HEv) : List HOp := opsRG h h.length 0 [] 0
theorem cntC_take {l : List HOp} {k : Nat} {o : HOp} (c : Int) (ho : l[k]? = some o) : cntC (l.take (k + 1)) c = cntC (l.take k) c + (if o.client = c then 1 else 0) := by
  rw [cntC, cntC, List.take_add_one, ho, Option.toList_some, List.countP_append]
  by_cases h : o.client = c <;> simp [h]
theorem cntC_le (l : List HOp) (c : Int) : 0 ≤ cntC l c ∧ cntC l c ≤ l.length := by
  have := List.countP_le_length (p := fun o : HOp => decide (o.client = c)) (l := l)
  unfold cntC
  omega
theorem retOf_step {h : List HEv} {k : Nat} {y : HEv} (c : Int) (hy : h[k]? = some y) : retOf c (h.drop k) k = if y.kind = 3 then none else if y.client = c then some (k, y) else retOf c (h.drop (k + 1)) (k + 1) := by
  have hlt := (List.getElem?_eq_some_iff.1 hy).1
  rw [List.drop_eq_getElem_cons hlt, (List.getElem?_eq_some_iff.1 hy).2]
  rfl
theorem rops_own (h : List HEv) (hL : h.length ≤ 1000000) : FnIs Tryz.prog 27 [.d (encH h)] [] (.own 64 0 (opsR h).length 41 none) [(64, opRow (opsR h))] := by
  refine fnIs_of tab_ok Tryz.func27 rfl rfl rfl ?_;refine sR ?_;refine rC ?_;refine nR ?_;refine rC ?_;refine nR ?_;refine rC ?_;refine nQ ?_;refine sR ?_;refine rC ?_
  refine nS ?_;refine wc_block ?_
  refine wc_inv (fun q : Nat × List HOp × Int => ⟨[(5, .int .i64 q.1), (4, .int .i64 q.2.2), (3, .own 65 0 q.2.1.length 41 none), (0, .d (encH h))], [(65, some (opRow q.2.1))], 72, Tryz.f27.ntmps, 64⟩) (fun q => q.1 ≤ h.length ∧ q.2.1.length ≤ q.1 ∧ 0 ≤ q.2.2 ∧ q.2.2 ≤ q.1 ∧ opsRG h (h.length - q.1) q.1 q.2.1 q.2.2 = opsR h) (fun q => h.length - q.1) (0, [], 0) [(65, none)] ⟨Nat.zero_le _, Nat.le_refl _, Int.le_refl _, Int.le_refl _, rfl⟩
    (.of rfl rfl rfl rfl rfl ⟨⟨_, rfl, .refl _⟩, rfl, ⟨_, rfl, .refl _⟩, rfl, ⟨_, rfl, .refl _⟩, rfl, ⟨_, rfl, .refl _⟩, rfl, trivial⟩ ⟨⟨rfl, rfl, rfl⟩, trivial⟩) ?_
  rintro ⟨i, out, era⟩ ⟨hi, ho, he0, he1, hgo⟩
  simp only at hi ho he0 he1 hgo
  refine wc_of ?_;refine qR ?_;iterate 2 refine rC ?_
  refine rQ iE ?_;refine rC ?_;refine nS ?_
  refine wc_cond rfl (fun h2 => ?_) (fun h2 => ?_)
  · have hlt : i < h.length := by have := of_decide_eq_true h2; omega
    obtain ⟨x, hx⟩ : ∃ u, h[i]? = some u := ⟨_, List.getElem?_eq_getElem hlt⟩
    have hx' : h[((i : Int)).toNat]? = some x := by rw [Int.toNat_natCast]; exact hx
    have hw22 : IntKind.i64.wrap (era + 1) = era + 1 := wrap_i64 (by omega) (by omega)
    obtain ⟨n, hn⟩ : ∃ n, h.length - i = n + 1 := ⟨h.length - i - 1, by omega⟩
    have hn' : h.length - (i + 1) = n := by omega
    rw [hn, opsRG, hx] at hgo
    simp only at hgo
    refine kS ?_;refine wc_seq ?_;refine wc_block ?_;refine qR ?_;iterate 2 refine rC ?_
    refine rQ (index_arr tab_ok rfl rfl rfl rfl rfl (by omega) hx') ?_;refine rC ?_;refine rQ iL ?_;refine rC ?_;refine nS ?_
    by_cases k3 : x.kind = 3
    · have d3 : decide (x.kind = 3) = true := decide_eq_true k3
      have d1 : (!decide (x.kind = 1)) = true := by rw [decide_eq_false (by omega)]; rfl
      rw [if_pos k3] at hgo
      refine wT ?_;refine wc_region ?_;refine rC ?_;refine rQ (add_int (m := era + 1) tab_ok rfl rfl hw22) ?_;refine rC ?_;refine nQ ?_;refine sR ?_;iterate 2 refine rC ?_
      refine rQ (index_arr tab_ok rfl rfl rfl rfl rfl (by omega) hx') ?_;refine rC ?_;refine rQ iL ?_;refine rC ?_;refine nS ?_;refine wT ?_;refine wc_exit ?_;refine seq_x ?_
      refine blk_x ?_;refine seq_n ?_;refine wc_region ?_;refine rC ?_;refine rQ iD ?_;refine rC ?_;refine reg_nil ?_
      exact loop_n (i + 1, out, era + 1) [(65, some 65)] ⟨hlt, by simp only; omega, by simp only; omega, by simp only; omega, by simp only [hn']; exact hgo⟩ (by show h.length - (i + 1) < h.length - i; omega) (.of rfl rfl rfl rfl rfl ⟨⟨_, rfl, .refl _⟩, rfl, ⟨_, rfl, .refl _⟩, rfl, ⟨_, rfl, .refl _⟩, rfl, ⟨_, rfl, .refl _⟩, rfl, trivial⟩ ⟨⟨rfl, rfl, _, rfl, .refl _⟩, trivial⟩)
    · have d3 : decide (x.kind = 3) = false := decide_eq_false k3
      rw [if_neg k3] at hgo
      refine wF ?_;refine kS ?_;refine qR ?_;iterate 2 refine rC ?_
      refine rQ (index_arr tab_ok rfl rfl rfl rfl rfl (by omega) hx') ?_;refine rC ?_;refine rQ iL ?_;refine rC ?_;refine nS ?_
      by_cases k1 : x.kind = 1
      · have d1 : (!decide (x.kind = 1)) = false := by rw [decide_eq_true k1]; rfl
        rw [if_pos k1] at hgo
        refine wF ?_;refine kS ?_;refine wc_seq ?_;refine wc_draw (by kernel_rfl) ?_;refine dC [0] [] ?_;refine dC [5] [] ?_;refine dQ [29, 30] [] (index_arr tab_ok rfl rfl rfl rfl rfl (by omega) hx') ?_
        refine dC [31] [] ?_;refine dQ [32] [] iL ?_;refine dC [4] [] ?_;refine dC [0] [] ?_;refine dC [5] [] ?_;refine dQ [35, 36] [] (index_arr tab_ok rfl rfl rfl rfl rfl (by omega) hx') ?_
        refine dC [37] [] ?_;refine dQ [38] [] iL ?_;refine dC [5] [] ?_;refine dQ [33, 34, 39, 40] [] iS ?_;refine dreg_w [] [] rfl (step_C tab_ok (fun K hk => hk)) ?_
        refine dreg_s [6, 41] [304] (store_row tab_ok rfl rfl rfl ⟨_, ⟨rfl, rfl, rfl⟩, rfl⟩ rfl) ?_;refine dreg_end (by kernel_rfl) ?_;refine seq_n ?_;refine qR ?_;refine rC ?_
        refine nS ?_;refine wc_block ?_
        refine wc_inv (fun k : Nat => ⟨[(7, .int .i64 k), (6, .ptr 66 []), (5, .int .i64 i), (4, .int .i64 era), (3, .own 65 0 out.length 41 none), (0, .d (encH h))], [(65, some (opRow out)), (66, some (.box 54 (.d (encOpn (opBase x i era (cntC (out.take k) x.client))))))], 72, Tryz.f27.ntmps, 64⟩) (fun k => k ≤ out.length) (fun k => out.length - k) 0 [(65, some 65), (66, some _)] (Nat.zero_le _)
          (.of rfl rfl rfl rfl rfl ⟨⟨_, rfl, .refl _⟩, rfl, ⟨_, rfl, .refl _⟩, rfl, ⟨_, rfl, .refl _⟩, rfl, ⟨_, rfl, .refl _⟩, rfl, ⟨_, rfl, .refl _⟩, rfl, ⟨_, rfl, .refl _⟩, rfl, trivial⟩ ⟨⟨rfl, rfl, _, rfl, .refl _⟩, ⟨rfl, rfl, _, rfl, .refl _⟩, trivial⟩) ?_
        intro k hk
        refine wc_of ?_;refine qR ?_;iterate 2 refine rC ?_
        refine rQ (len_own tab_ok rfl rfl) ?_;refine rC ?_;refine nS ?_
        refine wc_cond rfl (fun h4 => ?_) (fun h4 => ?_)
        · have hkl : k < out.length := by have := of_decide_eq_true h4; omega
          obtain ⟨q, hq⟩ : ∃ q, out[k]? = some q := ⟨_, List.getElem?_eq_getElem hkl⟩
          have hq' : out[((k : Int)).toNat]? = some q := by rw [Int.toNat_natCast]; exact hq
          have hcn := cntC_take x.client hq
          have hcl := cntC_le (out.take k) x.client
          rw [List.length_take] at hcl
          have hw58 : IntKind.i64.wrap (cntC (out.take k) x.client + 1) = cntC (out.take k) x.client + 1 := wrap_i64 (by omega) (by omega)
          refine kS ?_;refine wc_seq ?_;refine wc_block ?_;refine wc_seq ?_;refine wc_draw (by kernel_rfl) ?_;refine dC [3] [] ?_;refine dC [7] [] ?_;refine dQ [48, 49] [] (index_own tab_ok rfl rfl rfl rfl rfl (by omega) (by omega)) ?_
          refine dC [50] [] ?_;refine dQ [51] [65] (load_row tab_ok rfl rfl ⟨rfl, q, hq', _, rfl, rfl⟩ rfl) ?_;refine dC [6] [] ?_;refine dQ [53] [66] iB ?_;refine dC [52, 54] [] ?_
          refine dreg_end (by kernel_rfl) ?_;refine seq_n ?_
          by_cases kc : q.client = x.client
          · have dc : decide (q.client = x.client) = true := decide_eq_true kc
            rw [if_pos kc] at hcn
            refine wT ?_;refine wc_region ?_;refine rC ?_;refine rQ iB ?_;refine rQ (add_int tab_ok rfl rfl hw58) ?_;refine rC ?_;refine rX ?_;refine reg_nil ?_;refine blk_n ?_
            refine seq_n ?_;refine wc_region ?_;refine rC ?_;refine rQ iD ?_;refine rC ?_;refine reg_nil ?_
            exact loop_n (k + 1) [(65, some 65), (66, some 66)] hkl (by omega) (.of rfl rfl rfl rfl rfl ⟨⟨_, rfl, .refl _⟩, rfl, ⟨_, rfl, .refl _⟩, rfl, ⟨_, rfl, .refl _⟩, rfl, ⟨_, rfl, .refl _⟩, rfl, ⟨_, rfl, .refl _⟩, rfl, ⟨_, rfl, .refl _⟩, rfl, trivial⟩ ⟨⟨rfl, rfl, _, rfl, .refl _⟩, ⟨rfl, rfl, _, rfl, RowLe.of_eq (congrArg (fun n => Row.box 54 (.d (encOpn (opBase x i era n)))) hcn.symm)⟩, trivial⟩)
          · have dc : decide (q.client = x.client) = false := decide_eq_false kc
            rw [if_neg kc, Int.add_zero] at hcn
            refine wF ?_;refine wc_skip ?_;refine blk_n ?_;refine seq_n ?_;refine wc_region ?_;refine rC ?_;refine rQ iD ?_;refine rC ?_;refine reg_nil ?_
            exact loop_n (k + 1) [(65, some 65), (66, some 66)] hkl (by omega) (.of rfl rfl rfl rfl rfl ⟨⟨_, rfl, .refl _⟩, rfl, ⟨_, rfl, .refl _⟩, rfl, ⟨_, rfl, .refl _⟩, rfl, ⟨_, rfl, .refl _⟩, rfl, ⟨_, rfl, .refl _⟩, rfl, ⟨_, rfl, .refl _⟩, rfl, trivial⟩ ⟨⟨rfl, rfl, _, rfl, .refl _⟩, ⟨rfl, rfl, _, rfl, RowLe.of_eq (congrArg (fun n => Row.box 54 (.d (encOpn (opBase x i era n)))) hcn.symm)⟩, trivial⟩)
        · have hke : k = out.length := by have := of_decide_eq_false h4; omega
          subst hke
          rw [List.take_length]
          refine wc_exit ?_;refine seq_x ?_;refine loop_x ?_;refine blk_x ?_;refine seq_n ?_;refine qR ?_;refine rC ?_;refine rQ iD ?_;refine rC ?_;refine nS ?_;refine wc_block ?_
          have hal : out.length + 1 ≤ 1048576 := by omega
          refine wc_inv (fun k : Nat => ⟨[(8, .int .i64 k), (6, .ptr 66 []), (5, .int .i64 i), (4, .int .i64 era), (3, .own 65 0 out.length 41 none), (0, .d (encH h))], [(65, some (opRow out)), (66, some (.box 54 (.d (encOpn (opBase x i era (cntC out x.client))))))], 72, Tryz.f27.ntmps, 64⟩) (fun k => k ≤ h.length ∧ retOf x.client (h.drop k) k = retOf x.client (h.drop (i + 1)) (i + 1)) (fun k => h.length - k) (i + 1) [(65, some 65), (66, some 66)] ⟨hlt, rfl⟩
            (.of rfl rfl rfl rfl rfl ⟨⟨_, rfl, .refl _⟩, rfl, ⟨_, rfl, .refl _⟩, rfl, ⟨_, rfl, .refl _⟩, rfl, ⟨_, rfl, .refl _⟩, rfl, ⟨_, rfl, .refl _⟩, rfl, ⟨_, rfl, .refl _⟩, rfl, trivial⟩ ⟨⟨rfl, rfl, _, rfl, .refl _⟩, ⟨rfl, rfl, _, rfl, .refl _⟩, trivial⟩) ?_
          rintro k ⟨hk2, hret⟩
          refine wc_of ?_;refine qR ?_;iterate 2 refine rC ?_
          refine rQ iE ?_;iterate 2 refine rC ?_
          by_cases hkl : k < h.length
          · have d66 : decide ((k : Int) < (h.length : Int)) = true := decide_eq_true (by omega)
            obtain ⟨y, hy⟩ : ∃ y, h[k]? = some y := ⟨_, List.getElem?_eq_getElem hkl⟩
            have hy' : h[((k : Int)).toNat]? = some y := by rw [Int.toNat_natCast]; exact hy
            have hst := retOf_step x.client hy
            rw [hret] at hst
            refine rO ?_;refine rC ?_;refine rO ?_;refine rC ?_;refine rO ?_;refine rQ (index_arr tab_ok rfl rfl rfl rfl rfl (by omega) hy') ?_;refine rO ?_;refine rC ?_;refine rO ?_
            refine rQ iL ?_;refine rO ?_;refine rC ?_;refine rQ iT ?_;refine nS ?_
            by_cases y3 : y.kind = 3
            · have dy : (!decide (y.kind = 3)) = false := by rw [decide_eq_true y3]; rfl
              rw [if_pos y3] at hst
              have hmk : mkOp h i x out era = opAns (opBase x i era (cntC out x.client)) none := by rw [mkOp, hst]
              rw [hmk] at hgo
              have hl1 : out.length + 1 = (out ++ [opAns (opBase x i era (cntC out x.client)) none]).length := by simp
              refine wF ?_;refine wc_exit ?_;refine seq_x ?_;refine loop_x ?_;refine blk_x ?_;refine seq_n ?_;refine wc_region ?_;refine rC ?_;refine rQ iM ?_;refine reg_new (build_slice (s := 41) tab_ok rfl rfl rfl rfl rfl rfl rfl rfl) rfl ?_
              refine reg_new2 (append_one (enc := encOpn) (s := 41) (xs := out) tab_ok (opAns (opBase x i era (cntC out x.client)) none) rfl rfl rfl rfl rfl rfl rfl rfl rfl hal rfl) rfl ?_
              refine rC ?_;refine reg_nil ?_;refine blk_n ?_;refine seq_n ?_;refine wc_region ?_;refine rC ?_;refine rQ iD ?_;refine rC ?_;refine reg_nil ?_
              exact loop_n (i + 1, out ++ [opAns (opBase x i era (cntC out x.client)) none], era) [(65, some _)] ⟨hlt, by simp; omega, by simp only; omega, by simp only; omega, by simp only [hn']; exact hgo⟩ (by show h.length - (i + 1) < h.length - i; omega) (.of rfl rfl rfl rfl rfl ⟨⟨_, rfl, .refl _⟩, rfl, ⟨_, rfl, .refl _⟩, rfl, ⟨_, rfl, AVLe.of_eq (congrArg (fun n => AV.own _ 0 n 41 none) hl1)⟩, rfl, ⟨_, rfl, .refl _⟩, rfl, trivial⟩ ⟨⟨rfl, rfl, _, rfl, .refl _⟩, trivial⟩)
            · have dy : (!decide (y.kind = 3)) = true := by rw [decide_eq_false y3]; rfl
              rw [if_neg y3] at hst
              refine wT ?_;refine kS ?_;refine wc_seq ?_;refine wc_block ?_;refine wc_seq ?_;refine wc_draw (by kernel_rfl) ?_;refine dC [0] [] ?_;refine dC [8] [] ?_;refine dQ [76, 77] [] (index_arr tab_ok rfl rfl rfl rfl rfl (by omega) hy') ?_
              refine dC [78] [] ?_;refine dQ [79] [] iL ?_;refine dC [6] [] ?_;refine dQ [81] [66] iB ?_;refine dC [80, 82] [] ?_;refine dreg_end (by kernel_rfl) ?_;refine seq_n ?_
              by_cases yc : y.client = x.client
              · have dc : decide (y.client = x.client) = true := decide_eq_true yc
                rw [if_pos yc] at hst
                have hmk : mkOp h i x out era = opAns (opBase x i era (cntC out x.client)) (some (k, y)) := by rw [mkOp, hst]
                rw [hmk] at hgo
                have hl1 : out.length + 1 = (out ++ [opAns (opBase x i era (cntC out x.client)) (some (k, y))]).length := by simp
                refine wT ?_;refine sR ?_;iterate 2 refine rC ?_
                refine rX ?_;refine nR ?_;iterate 2 refine rC ?_
                refine rQ (index_arr tab_ok rfl rfl rfl rfl rfl (by omega) hy') ?_;refine rC ?_;refine rQ iL ?_;refine rC ?_;refine rX ?_;refine nR ?_;iterate 2 refine rC ?_
                refine rQ (index_arr tab_ok rfl rfl rfl rfl rfl (by omega) hy') ?_;refine rC ?_;refine rQ iL ?_;refine rC ?_;refine rX ?_;refine nS ?_;refine wc_exit ?_;refine blk_y rfl ?_
                refine seq_x ?_;refine loop_x ?_;refine blk_x ?_;refine seq_n ?_;refine wc_region ?_;refine rC ?_;refine rQ iM ?_;refine reg_new (build_slice (s := 41) tab_ok rfl rfl rfl rfl rfl rfl rfl rfl) rfl ?_
                refine reg_new2 (append_one (enc := encOpn) (s := 41) (xs := out) tab_ok (opAns (opBase x i era (cntC out x.client)) (some (k, y))) rfl rfl rfl rfl rfl rfl rfl rfl rfl hal rfl) rfl ?_
                refine rC ?_;refine reg_nil ?_;refine blk_n ?_;refine seq_n ?_;refine wc_region ?_;refine rC ?_;refine rQ iD ?_;refine rC ?_;refine reg_nil ?_
                exact loop_n (i + 1, out ++ [opAns (opBase x i era (cntC out x.client)) (some (k, y))], era) [(65, some _)] ⟨hlt, by simp; omega, by simp only; omega, by simp only; omega, by simp only [hn']; exact hgo⟩ (by show h.length - (i + 1) < h.length - i; omega) (.of rfl rfl rfl rfl rfl ⟨⟨_, rfl, .refl _⟩, rfl, ⟨_, rfl, .refl _⟩, rfl, ⟨_, rfl, AVLe.of_eq (congrArg (fun n => AV.own _ 0 n 41 none) hl1)⟩, rfl, ⟨_, rfl, .refl _⟩, rfl, trivial⟩ ⟨⟨rfl, rfl, _, rfl, .refl _⟩, trivial⟩)
              · have dc : decide (y.client = x.client) = false := decide_eq_false yc
                rw [if_neg yc] at hst
                refine wF ?_;refine wc_skip ?_;refine blk_n ?_;refine seq_n ?_;refine wc_region ?_;refine rC ?_;refine rQ iD ?_;refine rC ?_;refine reg_nil ?_
                exact loop_n (k + 1) [(65, some 65), (66, some 66)] ⟨hkl, hst.symm⟩ (by omega) (.of rfl rfl rfl rfl rfl ⟨⟨_, rfl, .refl _⟩, rfl, ⟨_, rfl, .refl _⟩, rfl, ⟨_, rfl, .refl _⟩, rfl, ⟨_, rfl, .refl _⟩, rfl, ⟨_, rfl, .refl _⟩, rfl, ⟨_, rfl, .refl _⟩, rfl, trivial⟩ ⟨⟨rfl, rfl, _, rfl, .refl _⟩, ⟨rfl, rfl, _, rfl, .refl _⟩, trivial⟩)
          · have d66 : decide ((k : Int) < (h.length : Int)) = false := decide_eq_false (by omega)
            have hst : retOf x.client (h.drop (i + 1)) (i + 1) = none := by rw [← hret, List.drop_eq_nil_of_le (by omega)]; rfl
            have hmk : mkOp h i x out era = opAns (opBase x i era (cntC out x.client)) none := by rw [mkOp, hst]
            rw [hmk] at hgo
            have hl1 : out.length + 1 = (out ++ [opAns (opBase x i era (cntC out x.client)) none]).length := by simp
            iterate 6 refine rS ?_
            refine rQ iF ?_;refine nS ?_;refine wG ?_;refine wc_exit ?_;refine seq_x ?_;refine loop_x ?_;refine blk_x ?_;refine seq_n ?_;refine wc_region ?_;refine rC ?_;refine rQ iM ?_
            refine reg_new (build_slice (s := 41) tab_ok rfl rfl rfl rfl rfl rfl rfl rfl) rfl ?_;refine reg_new2 (append_one (enc := encOpn) (s := 41) (xs := out) tab_ok (opAns (opBase x i era (cntC out x.client)) none) rfl rfl rfl rfl rfl rfl rfl rfl rfl hal rfl) rfl ?_
            refine rC ?_;refine reg_nil ?_;refine blk_n ?_;refine seq_n ?_;refine wc_region ?_;refine rC ?_;refine rQ iD ?_;refine rC ?_;refine reg_nil ?_
            exact loop_n (i + 1, out ++ [opAns (opBase x i era (cntC out x.client)) none], era) [(65, some _)] ⟨hlt, by simp; omega, by simp only; omega, by simp only; omega, by simp only [hn']; exact hgo⟩ (by show h.length - (i + 1) < h.length - i; omega) (.of rfl rfl rfl rfl rfl ⟨⟨_, rfl, .refl _⟩, rfl, ⟨_, rfl, .refl _⟩, rfl, ⟨_, rfl, AVLe.of_eq (congrArg (fun n => AV.own _ 0 n 41 none) hl1)⟩, rfl, ⟨_, rfl, .refl _⟩, rfl, trivial⟩ ⟨⟨rfl, rfl, _, rfl, .refl _⟩, trivial⟩)
      · have d1 : (!decide (x.kind = 1)) = true := by rw [decide_eq_false k1]; rfl
        rw [if_neg k1] at hgo
        refine wT ?_;refine wc_exit ?_;refine seq_x ?_;refine blk_x ?_;refine seq_n ?_;refine wc_region ?_;refine rC ?_;refine rQ iD ?_;refine rC ?_;refine reg_nil ?_
        exact loop_n (i + 1, out, era) [(65, some 65)] ⟨hlt, by simp only; omega, by simp only; omega, by simp only; omega, by simp only [hn']; exact hgo⟩ (by show h.length - (i + 1) < h.length - i; omega) (.of rfl rfl rfl rfl rfl ⟨⟨_, rfl, .refl _⟩, rfl, ⟨_, rfl, .refl _⟩, rfl, ⟨_, rfl, .refl _⟩, rfl, ⟨_, rfl, .refl _⟩, rfl, trivial⟩ ⟨⟨rfl, rfl, _, rfl, .refl _⟩, trivial⟩)
  · have hi2 : i = h.length := by have := of_decide_eq_false h2; omega
    subst hi2
    rw [Nat.sub_self] at hgo
    rw [← hgo]
    refine wc_exit ?_;refine seq_x ?_;refine loop_x ?_;refine blk_x ?_;refine seq_n ?_;refine sR ?_;iterate 2 refine rC ?_
    refine nS ?_;refine wc_ret ?_
    exact ⟨trivial, [(64, some _)], .of rfl rfl rfl rfl rfl ⟨⟨_, rfl, AVLe.of_eq rfl⟩, rfl, trivial⟩ ⟨⟨rfl, rfl, _, rfl, .refl _⟩, trivial⟩⟩
theorem rops_is (h : List HEv) (hL : h.length ≤ 1000000) : FnIs Tryz.prog 27 [.d (encH h)] [] (.d (encOps (opsR h))) [] := (rops_own h hL).freeze_out 64 _ rfl (Frz.own rfl) trivial
end Go.Proofs.YtmojbghcngdkpaaGreatDoor

namespace Go.Proofs.YtmojbghcngdkpaaGreatDoor
open Go.Eng Go.Plain
set_option maxHeartbeats 8000000
set_option maxRecDepth 20000
attribute [local irreducible] WC RegS RegD SeqQ BlkQ ScoQ RegK CutK Sat SatN FnIs LoopQ StepIs OpIs
def blkB (d : UInt8) : UInt8 := (d.toNat % 4).toUInt8
theorem blkB_nat (d : UInt8) : (blkB d).toNat = d.toNat % 4 := by
  rw [blkB, Nat.toUInt8_eq, UInt8.toNat_ofNat']
  omega
theorem blk_is (d : UInt8) : FnIs Tryz.prog 66 [.int .u8 d.toNat] [] (.d (encBk (List.replicate 32 (blkB d)))) [] := by
  have hd := d.toNat_lt
  refine fnIs_of tab_ok Tryz.func66 rfl rfl rfl ?_;refine sR ?_;refine rN ?_;refine nR ?_;refine rN ?_;refine nQ ?_;refine sR ?_;refine rC ?_;refine nS ?_;refine wc_block ?_
  refine wc_inv (fun i : Nat => ⟨[(4, .int .i64 i), (3, .ptr 65 []), (2, .ptr 66 []), (0, .int .u8 d.toNat)], [(65, some (.box 52 (.d (.vec 32 1 encU8 (fillL ((d.toNat % 4 : Nat) : Int) 32 i))))), (66, some (.box 52 (.d (.vec 32 1 encU8 (List.replicate 32 0)))))], 72, Tryz.f66.ntmps, 64⟩) (fun i => i ≤ 32) (fun i => 32 - i) 0 [(65, some _), (66, some _)] (Nat.zero_le _)
    (.of rfl rfl rfl rfl rfl ⟨⟨_, rfl, .refl _⟩, rfl, ⟨_, rfl, .refl _⟩, rfl, ⟨_, rfl, .refl _⟩, rfl, ⟨_, rfl, .refl _⟩, rfl, trivial⟩ ⟨⟨rfl, rfl, _, rfl, .refl _⟩, ⟨rfl, rfl, _, rfl, .refl _⟩, trivial⟩) ?_
  intro i hi
  refine wc_of ?_;refine qR ?_;iterate 2 refine rC ?_
  refine nS ?_
  refine wc_cond rfl (fun h3 => ?_) (fun h3 => ?_)
  · have hlt : i < 32 := by have := of_decide_eq_true h3; omega
    have hg : (fillL ((d.toNat % 4 : Nat) : Int) 32 i)[((i : Int)).toNat]? = some 0 := by rw [Int.toNat_natCast]; exact fillL_get hlt
    have hs := fillL_set (d := ((d.toNat % 4 : Nat) : Int)) hlt
    refine kS ?_;refine wc_seq ?_;refine wc_block ?_;refine wc_region ?_;iterate 2 refine rC ?_
    refine rQ (rem_nat (a := d.toNat) (b := 4) tab_ok rfl rfl rfl (by decide)) ?_;refine rQ (step_C tab_ok (fun K hk => ⟨by omega, by omega, hk⟩)) ?_;refine reg_store (store_row tab_ok rfl rfl rfl ⟨_, ⟨_, ⟨rfl, _, ((d.toNat % 4 : Nat) : Int), hg, ⟨rfl, rfl, rfl⟩, rfl⟩, rfl⟩, rfl⟩ rfl) ?_
    refine reg_nil ?_;refine blk_n ?_;refine seq_n ?_;refine wc_region ?_;refine rC ?_;refine rQ iD ?_;refine rC ?_;refine reg_nil ?_
    exact loop_n (i + 1) [(65, some 65), (66, some 66)] hlt (by omega) (.of rfl rfl rfl rfl rfl ⟨⟨_, rfl, .refl _⟩, rfl, ⟨_, rfl, .refl _⟩, rfl, ⟨_, rfl, .refl _⟩, rfl, ⟨_, rfl, .refl _⟩, rfl, trivial⟩ ⟨⟨rfl, rfl, _, rfl, RowLe.of_eq (congrArg (fun l => Row.box 52 (.d (.vec 32 1 encU8 l))) hs)⟩, ⟨rfl, rfl, _, rfl, .refl _⟩, trivial⟩)
  · have he : i = 32 := by have := of_decide_eq_false h3; omega
    subst he
    have hE : fillL ((d.toNat % 4 : Nat) : Int) 32 32 = byI (List.replicate 32 (blkB d)) := by rw [← blkB_nat]; exact fillL_end _ _
    rw [hE]
    refine wc_exit ?_;refine seq_x ?_;refine loop_x ?_;refine blk_x ?_;refine seq_n ?_;refine sR ?_;refine rQ iM ?_;refine rW ?_;refine nS ?_;refine wc_ret ?_
    exact ⟨trivial, _, rfl, [], lf⟩
end Go.Proofs.YtmojbghcngdkpaaGreatDoor

namespace Go.Proofs.YtmojbghcngdkpaaGreatDoor
open Go.Eng Go.Plain
set_option maxHeartbeats 8000000
set_option maxRecDepth 20000
attribute [local irreducible] WC RegS RegD SeqQ BlkQ ScoQ RegK CutK Sat SatN FnIs LoopQ StepIs OpIs
structure XE where
  who : UInt8
  what : UInt8
  data : UInt8
def encXE (x : XE) : D := .cons (u8s x.who.toNat) (.cons (u8s x.what.toNat) (.cons (u8s x.data.toNat) .nil))
def opX (x : XE) : POp :=
  if x.what.toNat % 8 < 3 then ⟨1, ((x.data.toNat / 4 % 3 : Nat) : Int), []⟩
  else if x.what.toNat % 8 < 6 then ⟨2, ((x.data.toNat / 4 % 3 : Nat) : Int), List.replicate 32 (blkB x.data)⟩
  else if x.what.toNat % 8 = 6 then ⟨3, 0, []⟩
  else qOf ⟨8, x.data, x.what⟩
theorem opx_is (x : XE) : FnIs Tryz.prog 65 [.d (encXE x)] [] (.d (encPOp (opX x))) [] := by
  have hx1 := x.what.toNat_lt
  have hx2 := x.data.toNat_lt
  have hwc : IntKind.i64.wrap ((x.data.toNat / 4 : Nat) : Int) = ((x.data.toNat / 4 : Nat) : Int) := wrap_i64 (by omega) (by omega)
  refine fnIs_of tab_ok Tryz.func65 rfl rfl rfl ?_;refine sR ?_;iterate 2 refine rN ?_
  refine nR ?_;refine rC ?_;refine rQ iB ?_;refine rQ (call_r (blk_is x.data) rfl rfl (arg_e arg_nil) (.inl rfl) (fun _ => rfl)) ?_;refine rN ?_;refine rW ?_;refine nS ?_
  refine wc_freeze (env' := [(3, _), (2, _), (1, _)]) (h' := [(64, some _), (72, some _)]) 104 _ rfl ⟨⟨_, rfl, Frz.ptr⟩, ⟨_, rfl, .refl _⟩, ⟨_, rfl, .refl _⟩, trivial⟩ ⟨⟨rfl, _, rfl, .refl _⟩, ⟨rfl, _, rfl, .refl _⟩, trivial⟩ ?_
  have hw8 : x.what.toNat % 8 < 8 := Nat.mod_lt _ (by decide)
  refine qR ?_;refine rC ?_;refine rQ iB ?_;refine rQ (rem_nat (a := x.what.toNat) (b := 8) tab_ok rfl rfl rfl (by decide)) ?_;refine nS ?_;refine wc_block ?_;refine qR ?_
  iterate 2 refine rC ?_
  refine nS ?_
  by_cases w0 : x.what.toNat % 8 = 0
  · have e0 : decide (((x.what.toNat % 8 : Nat) : Int) = 0) = true := decide_eq_true (by omega)
    rw [show opX x = ⟨1, ((x.data.toNat / 4 % 3 : Nat) : Int), []⟩ by rw [opX, if_pos (by omega)]]
    refine wT ?_;refine kS ?_;refine wT ?_;refine sR ?_;refine rC ?_;refine rQ iB ?_;refine rQ (shr_nat (a := x.data.toNat) (s := 2) (m := x.data.toNat / 4) rfl rfl (by decide) rfl) ?_
    refine rQ (conv_int (m := ((x.data.toNat / 4 : Nat) : Int)) tab_ok rfl rfl rfl hwc) ?_;refine rQ (rem_nat (a := x.data.toNat / 4) (b := 3) tab_ok rfl rfl rfl (by decide)) ?_
    refine rQ iS ?_;refine rW ?_;refine nS ?_;refine wc_ret ?_;refine blk_r ?_;refine seq_r ?_
    exact ⟨trivial, _, rfl, [], .of rfl rfl rfl rfl rfl ⟨⟨_, rfl, op_nil_le _ _⟩, rfl, trivial⟩ trivial⟩
  skip
  by_cases w1 : x.what.toNat % 8 = 1
  · have e0 : decide (((x.what.toNat % 8 : Nat) : Int) = 0) = false := decide_eq_false (by omega)
    have e1 : decide (((x.what.toNat % 8 : Nat) : Int) = 1) = true := decide_eq_true (by omega)
    rw [show opX x = ⟨1, ((x.data.toNat / 4 % 3 : Nat) : Int), []⟩ by rw [opX, if_pos (by omega)]]
    refine wF ?_;refine sR ?_;iterate 2 refine rC ?_
    refine nS ?_;refine wT ?_;refine kS ?_;refine wT ?_;refine sR ?_;refine rC ?_;refine rQ iB ?_;refine rQ (shr_nat (a := x.data.toNat) (s := 2) (m := x.data.toNat / 4) rfl rfl (by decide) rfl) ?_
    refine rQ (conv_int (m := ((x.data.toNat / 4 : Nat) : Int)) tab_ok rfl rfl rfl hwc) ?_;refine rQ (rem_nat (a := x.data.toNat / 4) (b := 3) tab_ok rfl rfl rfl (by decide)) ?_
    refine rQ iS ?_;refine rW ?_;refine nS ?_;refine wc_ret ?_;refine blk_r ?_;refine seq_r ?_
    exact ⟨trivial, _, rfl, [], .of rfl rfl rfl rfl rfl ⟨⟨_, rfl, op_nil_le _ _⟩, rfl, trivial⟩ trivial⟩
  skip
  by_cases w2 : x.what.toNat % 8 = 2
  · have e0 : decide (((x.what.toNat % 8 : Nat) : Int) = 0) = false := decide_eq_false (by omega)
    have e1 : decide (((x.what.toNat % 8 : Nat) : Int) = 1) = false := decide_eq_false (by omega)
    have e2 : decide (((x.what.toNat % 8 : Nat) : Int) = 2) = true := decide_eq_true (by omega)
    rw [show opX x = ⟨1, ((x.data.toNat / 4 % 3 : Nat) : Int), []⟩ by rw [opX, if_pos (by omega)]]
    refine wF ?_;refine sR ?_;iterate 2 refine rC ?_
    refine nS ?_;refine wF ?_;refine wc_region ?_;iterate 2 refine rC ?_
    refine nS ?_;refine wT ?_;refine sR ?_;refine rC ?_;refine rQ iB ?_;refine rQ (shr_nat (a := x.data.toNat) (s := 2) (m := x.data.toNat / 4) rfl rfl (by decide) rfl) ?_
    refine rQ (conv_int (m := ((x.data.toNat / 4 : Nat) : Int)) tab_ok rfl rfl rfl hwc) ?_;refine rQ (rem_nat (a := x.data.toNat / 4) (b := 3) tab_ok rfl rfl rfl (by decide)) ?_
    refine rQ iS ?_;refine rW ?_;refine nS ?_;refine wc_ret ?_;refine blk_r ?_;refine seq_r ?_
    exact ⟨trivial, _, rfl, [], .of rfl rfl rfl rfl rfl ⟨⟨_, rfl, op_nil_le _ _⟩, rfl, trivial⟩ trivial⟩
  skip
  by_cases w3 : x.what.toNat % 8 = 3
  · have e0 : decide (((x.what.toNat % 8 : Nat) : Int) = 0) = false := decide_eq_false (by omega)
    have e1 : decide (((x.what.toNat % 8 : Nat) : Int) = 1) = false := decide_eq_false (by omega)
    have e2 : decide (((x.what.toNat % 8 : Nat) : Int) = 2) = false := decide_eq_false (by omega)
    have e3 : decide (((x.what.toNat % 8 : Nat) : Int) = 3) = true := decide_eq_true (by omega)
    rw [show opX x = ⟨2, ((x.data.toNat / 4 % 3 : Nat) : Int), List.replicate 32 (blkB x.data)⟩ by rw [opX, if_neg (by omega), if_pos (by omega)]]
    refine wF ?_;refine sR ?_;iterate 2 refine rC ?_
    refine nS ?_;refine wF ?_;refine wc_region ?_;iterate 2 refine rC ?_
    refine nS ?_;refine wF ?_;refine qR ?_;iterate 2 refine rC ?_
    refine nS ?_;refine wT ?_;refine kS ?_;refine wT ?_;refine wc_seq ?_;refine wc_draw (by kernel_rfl) ?_;refine dC [1] [] ?_;refine dQ [24] [64] iB ?_;refine dQ [25] [] (shr_nat (a := x.data.toNat) (s := 2) (m := x.data.toNat / 4) rfl rfl (by decide) rfl) ?_
    refine dQ [26] [] (conv_int (m := ((x.data.toNat / 4 : Nat) : Int)) tab_ok rfl rfl rfl hwc) ?_;refine dQ [27] [] (rem_nat (a := x.data.toNat / 4) (b := 3) tab_ok rfl rfl rfl (by decide)) ?_
    refine dQ [3] [] (slice_pt tab_ok rfl rfl rfl rfl rfl) ?_;refine dQ [28, 29] [] iS ?_;refine dreg_s [2, 30] [72] (store_row tab_ok rfl rfl rfl ⟨_, ⟨rfl, rfl, rfl⟩, rfl⟩ rfl) ?_
    refine dreg_end (by kernel_rfl) ?_;refine seq_n ?_;refine wc_ret ?_;refine blk_r ?_;refine seq_r ?_
    exact ⟨trivial, _, rfl, [], lf⟩
  skip
  by_cases w4 : x.what.toNat % 8 = 4
  · have e0 : decide (((x.what.toNat % 8 : Nat) : Int) = 0) = false := decide_eq_false (by omega)
    have e1 : decide (((x.what.toNat % 8 : Nat) : Int) = 1) = false := decide_eq_false (by omega)
    have e2 : decide (((x.what.toNat % 8 : Nat) : Int) = 2) = false := decide_eq_false (by omega)
    have e3 : decide (((x.what.toNat % 8 : Nat) : Int) = 3) = false := decide_eq_false (by omega)
    have e4 : decide (((x.what.toNat % 8 : Nat) : Int) = 4) = true := decide_eq_true (by omega)
    rw [show opX x = ⟨2, ((x.data.toNat / 4 % 3 : Nat) : Int), List.replicate 32 (blkB x.data)⟩ by rw [opX, if_neg (by omega), if_pos (by omega)]]
    refine wF ?_;refine sR ?_;iterate 2 refine rC ?_
    refine nS ?_;refine wF ?_;refine wc_region ?_;iterate 2 refine rC ?_
    refine nS ?_;refine wF ?_;refine qR ?_;iterate 2 refine rC ?_
    refine nS ?_;refine wF ?_;refine sR ?_;iterate 2 refine rC ?_
    refine nS ?_;refine wT ?_;refine kS ?_;refine wT ?_;refine wc_seq ?_;refine wc_draw (by kernel_rfl) ?_;refine dC [1] [] ?_;refine dQ [24] [64] iB ?_;refine dQ [25] [] (shr_nat (a := x.data.toNat) (s := 2) (m := x.data.toNat / 4) rfl rfl (by decide) rfl) ?_
    refine dQ [26] [] (conv_int (m := ((x.data.toNat / 4 : Nat) : Int)) tab_ok rfl rfl rfl hwc) ?_;refine dQ [27] [] (rem_nat (a := x.data.toNat / 4) (b := 3) tab_ok rfl rfl rfl (by decide)) ?_
    refine dQ [3] [] (slice_pt tab_ok rfl rfl rfl rfl rfl) ?_;refine dQ [28, 29] [] iS ?_;refine dreg_s [2, 30] [72] (store_row tab_ok rfl rfl rfl ⟨_, ⟨rfl, rfl, rfl⟩, rfl⟩ rfl) ?_
    refine dreg_end (by kernel_rfl) ?_;refine seq_n ?_;refine wc_ret ?_;refine blk_r ?_;refine seq_r ?_
    exact ⟨trivial, _, rfl, [], lf⟩
  skip
  by_cases w5 : x.what.toNat % 8 = 5
  · have e0 : decide (((x.what.toNat % 8 : Nat) : Int) = 0) = false := decide_eq_false (by omega)
    have e1 : decide (((x.what.toNat % 8 : Nat) : Int) = 1) = false := decide_eq_false (by omega)
    have e2 : decide (((x.what.toNat % 8 : Nat) : Int) = 2) = false := decide_eq_false (by omega)
    have e3 : decide (((x.what.toNat % 8 : Nat) : Int) = 3) = false := decide_eq_false (by omega)
    have e4 : decide (((x.what.toNat % 8 : Nat) : Int) = 4) = false := decide_eq_false (by omega)
    have e5 : decide (((x.what.toNat % 8 : Nat) : Int) = 5) = true := decide_eq_true (by omega)
    rw [show opX x = ⟨2, ((x.data.toNat / 4 % 3 : Nat) : Int), List.replicate 32 (blkB x.data)⟩ by rw [opX, if_neg (by omega), if_pos (by omega)]]
    refine wF ?_;refine sR ?_;iterate 2 refine rC ?_
    refine nS ?_;refine wF ?_;refine wc_region ?_;iterate 2 refine rC ?_
    refine nS ?_;refine wF ?_;refine qR ?_;iterate 2 refine rC ?_
    refine nS ?_;refine wF ?_;refine sR ?_;iterate 2 refine rC ?_
    refine nS ?_;refine wF ?_;refine wc_region ?_;iterate 2 refine rC ?_
    refine nS ?_;refine wT ?_;refine wc_seq ?_;refine wc_draw (by kernel_rfl) ?_;refine dC [1] [] ?_;refine dQ [24] [64] iB ?_;refine dQ [25] [] (shr_nat (a := x.data.toNat) (s := 2) (m := x.data.toNat / 4) rfl rfl (by decide) rfl) ?_
    refine dQ [26] [] (conv_int (m := ((x.data.toNat / 4 : Nat) : Int)) tab_ok rfl rfl rfl hwc) ?_;refine dQ [27] [] (rem_nat (a := x.data.toNat / 4) (b := 3) tab_ok rfl rfl rfl (by decide)) ?_
    refine dQ [3] [] (slice_pt tab_ok rfl rfl rfl rfl rfl) ?_;refine dQ [28, 29] [] iS ?_;refine dreg_s [2, 30] [72] (store_row tab_ok rfl rfl rfl ⟨_, ⟨rfl, rfl, rfl⟩, rfl⟩ rfl) ?_
    refine dreg_end (by kernel_rfl) ?_;refine seq_n ?_;refine wc_ret ?_;refine blk_r ?_;refine seq_r ?_
    exact ⟨trivial, _, rfl, [], lf⟩
  skip
  by_cases w6 : x.what.toNat % 8 = 6
  · have e0 : decide (((x.what.toNat % 8 : Nat) : Int) = 0) = false := decide_eq_false (by omega)
    have e1 : decide (((x.what.toNat % 8 : Nat) : Int) = 1) = false := decide_eq_false (by omega)
    have e2 : decide (((x.what.toNat % 8 : Nat) : Int) = 2) = false := decide_eq_false (by omega)
    have e3 : decide (((x.what.toNat % 8 : Nat) : Int) = 3) = false := decide_eq_false (by omega)
    have e4 : decide (((x.what.toNat % 8 : Nat) : Int) = 4) = false := decide_eq_false (by omega)
    have e5 : decide (((x.what.toNat % 8 : Nat) : Int) = 5) = false := decide_eq_false (by omega)
    have e6 : decide (((x.what.toNat % 8 : Nat) : Int) = 6) = true := decide_eq_true (by omega)
    rw [show opX x = ⟨3, 0, []⟩ by rw [opX, if_neg (by omega), if_neg (by omega), if_pos w6]]
    refine wF ?_;refine sR ?_;iterate 2 refine rC ?_
    refine nS ?_;refine wF ?_;refine wc_region ?_;iterate 2 refine rC ?_
    refine nS ?_;refine wF ?_;refine qR ?_;iterate 2 refine rC ?_
    refine nS ?_;refine wF ?_;refine sR ?_;iterate 2 refine rC ?_
    refine nS ?_;refine wF ?_;refine wc_region ?_;iterate 2 refine rC ?_
    refine nS ?_;refine wF ?_;refine sR ?_;iterate 2 refine rC ?_
    refine nS ?_;refine wT ?_;refine sR ?_;refine rQ iS ?_;refine rW ?_;refine nS ?_;refine wc_ret ?_;refine blk_r ?_;refine seq_r ?_
    exact ⟨trivial, _, rfl, [], .of rfl rfl rfl rfl rfl ⟨⟨_, rfl, op_nil_le _ _⟩, rfl, trivial⟩ trivial⟩
  have w7 : x.what.toNat % 8 = 7 := by omega
  have e0 : decide (((x.what.toNat % 8 : Nat) : Int) = 0) = false := decide_eq_false (by omega)
  have e1 : decide (((x.what.toNat % 8 : Nat) : Int) = 1) = false := decide_eq_false (by omega)
  have e2 : decide (((x.what.toNat % 8 : Nat) : Int) = 2) = false := decide_eq_false (by omega)
  have e3 : decide (((x.what.toNat % 8 : Nat) : Int) = 3) = false := decide_eq_false (by omega)
  have e4 : decide (((x.what.toNat % 8 : Nat) : Int) = 4) = false := decide_eq_false (by omega)
  have e5 : decide (((x.what.toNat % 8 : Nat) : Int) = 5) = false := decide_eq_false (by omega)
  have e6 : decide (((x.what.toNat % 8 : Nat) : Int) = 6) = false := decide_eq_false (by omega)
  rw [show opX x = qOf ⟨8, x.data, x.what⟩ by rw [opX, if_neg (by omega), if_neg (by omega), if_neg w6]]
  refine wF ?_;refine sR ?_;iterate 2 refine rC ?_
  refine nS ?_;refine wF ?_;refine wc_region ?_;iterate 2 refine rC ?_
  refine nS ?_;refine wF ?_;refine qR ?_;iterate 2 refine rC ?_
  refine nS ?_;refine wF ?_;refine sR ?_;iterate 2 refine rC ?_
  refine nS ?_;refine wF ?_;refine wc_region ?_;iterate 2 refine rC ?_
  refine nS ?_;refine wF ?_;refine sR ?_;iterate 2 refine rC ?_
  refine nS ?_;refine wF ?_;refine wc_skip ?_;refine blk_n ?_;refine seq_n ?_;refine sR ?_;refine rC ?_;refine rQ iB ?_;refine rC ?_;refine rQ iB ?_;refine rQ iS ?_
  refine rQ (call_r (qof_is ⟨8, x.data, x.what⟩) rfl rfl (arg_e arg_nil) (.inl rfl) (fun _ => rfl)) ?_;refine rW ?_;refine nS ?_;refine wc_ret ?_
  exact ⟨trivial, _, rfl, [], lf⟩
end Go.Proofs.YtmojbghcngdkpaaGreatDoor

namespace Go.Proofs.YtmojbghcngdkpaaGreatDoor
open Go.Eng Go.Plain
set_option maxHeartbeats 8000000
set_option maxRecDepth 20000
attribute [local irreducible] WC RegS RegD SeqQ BlkQ ScoQ RegK CutK Sat SatN FnIs LoopQ StepIs OpIs
def encXH (l : List XE) : D := .cons (.arr 3 encXE l) .nil
def errs8 : List Int := [0, 0, 0, 0, 0, 1, 8, 9]
def errX (y : HEv) (x : XE) : Int := if badO y.op 3 && decide (x.what.toNat < 200) then 1 else errs8[x.what.toNat % 8]?.getD 0
def stepX (out : List HEv) (x : XE) : List HEv :=
  if x.who.toNat % 4 = 3 ∧ x.what.toNat ≤ 20 then out ++ [⟨3, 0, zOp, zBk, 0⟩]
  else if pend out ((x.who.toNat % 4 % 3 : Nat) : Int) < 0 then out ++ [⟨1, ((x.who.toNat % 4 % 3 : Nat) : Int), opX x, zBk, 0⟩]
  else match out[(pend out ((x.who.toNat % 4 % 3 : Nat) : Int)).toNat]? with
    | none => out
    | some y => out ++ [⟨2, ((x.who.toNat % 4 % 3 : Nat) : Int), zOp, if y.op.kind = 1 ∧ errX y x = 0 then List.replicate 32 (blkB x.data) else zBk, errX y x⟩]
def hOf (l : List XE) : List HEv := (l.take 24).foldl stepX []
theorem zev_le (k c e : Int) : DLe (.cons (u8s k) (.cons (i6 c) (.cons zPOp (.cons (.vec 32 1 encU8 (List.replicate 32 0)) (.cons (i6 e) .nil))))) (encEv ⟨k, c, zOp, zBk, e⟩) := by
  rintro w X cs ⟨c1, r1, rfl, h1, c2, r2, rfl, h2, c3, r3, rfl, h3, h4⟩
  exact ⟨c1, _, rfl, h1, c2, _, rfl, h2, c3, _, rfl, zop_le _ _ _ h3, h4⟩
theorem stepX_len (out : List HEv) (x : XE) : (stepX out x).length ≤ out.length + 1 := by
  unfold stepX
  split
  · simp
  · split
    · simp
    · split <;> simp
theorem foldX_len : ∀ (l : List XE) (out : List HEv), (l.foldl stepX out).length ≤ out.length + l.length
  | [], out => by simp
  | x :: l, out => by
    have h1 := foldX_len l (stepX out x)
    have h2 := stepX_len out x
    simp only [List.foldl_cons, List.length_cons]
    omega
theorem foldX_take {l : List XE} {i : Nat} {x : XE} (hx : l[i]? = some x) : (l.take (i + 1)).foldl stepX [] = stepX ((l.take i).foldl stepX []) x := by
  rw [List.take_add_one, hx, Option.toList_some, List.foldl_append]; rfl
theorem hof_own (l : List XE) : FnIs Tryz.prog 25 [.d (encXH l)] [] (.own 64 0 (hOf l).length 38 none) [(64, .ds 59 38 false encEv (hOf l))] := by
  refine fnIs_of tab_ok Tryz.func25 rfl rfl rfl ?_;refine sR ?_;refine rN ?_;refine rC ?_;refine nR ?_;refine rC ?_;refine nQ ?_;refine sR ?_;refine rC ?_;refine nS ?_
  refine wc_block ?_
  refine wc_inv (fun q : Nat × List HEv => ⟨[(4, .int .i64 q.1), (3, .own 65 0 q.2.length 38 none), (1, .ptr 64 [])], [(64, some (.box 43 (.d (encXH l)))), (65, some (.ds 59 38 false encEv q.2))], 72, Tryz.f25.ntmps, 64⟩) (fun q => q.1 ≤ l.length ∧ q.1 ≤ 24 ∧ q.2 = (l.take q.1).foldl stepX []) (fun q => 24 - q.1) (0, []) [(64, some 64), (65, none)] ⟨Nat.zero_le _, Nat.zero_le _, rfl⟩
    (.of rfl rfl rfl rfl rfl ⟨⟨_, rfl, .refl _⟩, rfl, ⟨_, rfl, .refl _⟩, rfl, ⟨_, rfl, .refl _⟩, rfl, trivial⟩ ⟨⟨rfl, rfl, _, rfl, .refl _⟩, ⟨rfl, rfl, rfl⟩, trivial⟩) ?_
  rintro ⟨i, out⟩ ⟨hi, h24, hout⟩
  simp only at hi h24 hout
  have hol : out.length ≤ 24 := by
    have := foldX_len (l.take i) []
    rw [← hout, List.length_take] at this
    simp at this; omega
  have hal : out.length + 1 ≤ 1048576 := by omega
  have hpl : out.length ≤ 9223372036854775807 := by omega
  refine wc_of ?_;refine qR ?_;iterate 2 refine rC ?_
  refine rQ iB ?_;refine rQ iE ?_;iterate 2 refine rC ?_
  by_cases hlt : i < l.length
  · have c1 : decide ((i : Int) < (l.length : Int)) = true := decide_eq_true (by omega)
    refine rO ?_;refine rC ?_;refine rO ?_;refine rC ?_;refine rQ iT ?_;refine nS ?_
    by_cases h24 : i < 24
    · have c2 : decide ((i : Int) < 24) = true := decide_eq_true (by omega)
      obtain ⟨x, hx⟩ : ∃ u, l[i]? = some u := ⟨_, List.getElem?_eq_getElem hlt⟩
      have hx' : l[((i : Int)).toNat]? = some x := by rw [Int.toNat_natCast]; exact hx
      have hx1 := x.who.toNat_lt
      have hx2 := x.what.toNat_lt
      have hwc : IntKind.i64.wrap ((x.who.toNat % 4 : Nat) : Int) = ((x.who.toNat % 4 : Nat) : Int) := wrap_i64 (by omega) (by omega)
      have hfx := foldX_take hx
      rw [← hout] at hfx
      refine wT ?_;refine kS ?_;refine wc_seq ?_;refine wc_block ?_;refine sR ?_;refine rC ?_;refine rQ iB ?_;refine rC ?_;refine rQ (index_arr tab_ok rfl rfl rfl rfl rfl (by omega) hx') ?_
      refine rQ iL ?_;refine rN ?_;refine rW ?_;refine nR ?_;refine rC ?_;refine rQ iB ?_;refine rQ (rem_nat (a := x.who.toNat) (b := 4) tab_ok rfl rfl rfl (by decide)) ?_
      refine rQ (conv_int (m := ((x.who.toNat % 4 : Nat) : Int)) tab_ok rfl rfl rfl hwc) ?_;refine rC ?_;refine nQ ?_;refine sR ?_;iterate 3 refine rC ?_
      by_cases w3 : x.who.toNat % 4 = 3
      · have d3 : decide (((x.who.toNat % 4 : Nat) : Int) = 3) = true := decide_eq_true (by omega)
        refine rO ?_;refine rC ?_;refine rO ?_;refine rQ iB ?_;refine rO ?_;refine rC ?_;refine rQ iT ?_;refine nS ?_
        by_cases w20 : x.what.toNat ≤ 20
        · have d20 : decide ((x.what.toNat : Int) ≤ 20) = true := decide_eq_true (by omega)
          have hst : stepX out x = out ++ [⟨3, 0, zOp, zBk, 0⟩] := by rw [stepX, if_pos ⟨w3, w20⟩]
          have hl1 : out.length + 1 = (out ++ [(⟨3, 0, zOp, zBk, 0⟩ : HEv)]).length := by simp
          refine wT ?_;refine sR ?_;refine rC ?_;refine rQ (StepIs.val_le (build_struct tab_ok rfl rfl rfl rfl) (zev_le 3 0 0) rfl) ?_;refine reg_new (build_slice (s := 38) tab_ok rfl rfl rfl rfl rfl rfl rfl rfl) rfl ?_
          refine reg_new2 (append_one (enc := encEv) (s := 38) (xs := out) tab_ok ⟨3, 0, zOp, zBk, 0⟩ rfl rfl rfl rfl rfl rfl rfl rfl rfl hal rfl) rfl ?_;refine rC ?_;refine nS ?_
          refine wc_exit ?_;refine seq_x ?_;refine blk_x ?_;refine seq_n ?_;refine wc_region ?_;refine rC ?_;refine rQ iD ?_;refine rC ?_;refine reg_nil ?_
          exact loop_n (i + 1, out ++ [⟨3, 0, zOp, zBk, 0⟩]) [(64, some 64), (65, some _)] ⟨hlt, h24, by rw [hfx, hst]⟩ (by show 24 - (i + 1) < 24 - i; omega) (.of rfl rfl rfl rfl rfl ⟨⟨_, rfl, .refl _⟩, rfl, ⟨_, rfl, AVLe.of_eq (congrArg (fun n => AV.own _ 0 n 38 none) hl1)⟩, rfl, ⟨_, rfl, .refl _⟩, rfl, trivial⟩ ⟨⟨rfl, rfl, _, rfl, .refl _⟩, ⟨rfl, rfl, _, rfl, .refl _⟩, trivial⟩)
        · have d20 : decide ((x.what.toNat : Int) ≤ 20) = false := decide_eq_false (by omega)
          have hns : ¬ (x.who.toNat % 4 = 3 ∧ x.what.toNat ≤ 20) := by omega
          refine wF ?_;refine kS ?_;refine sR ?_;refine rC ?_;refine rQ (rem_nat (a := x.who.toNat % 4) (b := 3) tab_ok rfl rfl rfl (by decide)) ?_;refine rC ?_;refine nR ?_
          iterate 2 refine rC ?_
          refine rQ (call_r (pend_is out ((x.who.toNat % 4 % 3 : Nat) : Int) hpl) rfl rfl (arg_own rfl (arg_e arg_nil)) (.inr (PlainRes.sc _)) (fun _ => rfl)) ?_;refine rC ?_
          refine nQ ?_;refine sR ?_;iterate 2 refine rC ?_
          refine nS ?_
          by_cases hp : pend out ((x.who.toNat % 4 % 3 : Nat) : Int) < 0
          · have dp : decide (pend out ((x.who.toNat % 4 % 3 : Nat) : Int) < 0) = true := decide_eq_true hp
            have hst : stepX out x = out ++ [⟨1, ((x.who.toNat % 4 % 3 : Nat) : Int), opX x, zBk, 0⟩] := by rw [stepX, if_neg hns, if_pos hp]
            have hl1 : out.length + 1 = (out ++ [(⟨1, ((x.who.toNat % 4 % 3 : Nat) : Int), opX x, zBk, 0⟩ : HEv)]).length := by simp
            refine wT ?_;refine sR ?_;iterate 2 refine rC ?_
            refine rQ iM ?_;refine rQ (call_r (opx_is x) rfl rfl (arg_e arg_nil) (.inl rfl) (fun _ => rfl)) ?_;refine rQ iS ?_;refine reg_new (build_slice (s := 38) tab_ok rfl rfl rfl rfl rfl rfl rfl rfl) rfl ?_
            refine reg_new2 (append_one (enc := encEv) (s := 38) (xs := out) tab_ok ⟨1, ((x.who.toNat % 4 % 3 : Nat) : Int), opX x, zBk, 0⟩ rfl rfl rfl rfl rfl rfl rfl rfl rfl hal rfl) rfl ?_
            refine rC ?_;refine nS ?_;refine wc_exit ?_;refine seq_x ?_;refine blk_x ?_;refine seq_n ?_;refine wc_region ?_;refine rC ?_;refine rQ iD ?_;refine rC ?_;refine reg_nil ?_
            exact loop_n (i + 1, out ++ [⟨1, ((x.who.toNat % 4 % 3 : Nat) : Int), opX x, zBk, 0⟩]) [(64, some 64), (65, some _)] ⟨hlt, h24, by rw [hfx, hst]⟩ (by show 24 - (i + 1) < 24 - i; omega) (.of rfl rfl rfl rfl rfl ⟨⟨_, rfl, .refl _⟩, rfl, ⟨_, rfl, AVLe.of_eq (congrArg (fun n => AV.own _ 0 n 38 none) hl1)⟩, rfl, ⟨_, rfl, .refl _⟩, rfl, trivial⟩ ⟨⟨rfl, rfl, _, rfl, .refl _⟩, ⟨rfl, rfl, _, rfl, .refl _⟩, trivial⟩)
          · have dp : decide (pend out ((x.who.toNat % 4 % 3 : Nat) : Int) < 0) = false := decide_eq_false hp
            have hpi := pend_in out ((x.who.toNat % 4 % 3 : Nat) : Int)
            have hge : 0 ≤ pend out ((x.who.toNat % 4 % 3 : Nat) : Int) := by omega
            have hlp : pend out ((x.who.toNat % 4 % 3 : Nat) : Int) < (out.length : Int) := hpi.2
            obtain ⟨y, hy⟩ : ∃ y, out[(pend out ((x.who.toNat % 4 % 3 : Nat) : Int)).toNat]? = some y := ⟨_, List.getElem?_eq_getElem (by omega)⟩
            obtain ⟨e0, he0⟩ : ∃ e0, errs8[x.what.toNat % 8]? = some e0 := ⟨_, List.getElem?_eq_getElem (Nat.mod_lt _ (by decide))⟩
            have hE : errs8[(((x.what.toNat % 8 : Nat) : Int)).toNat]? = some e0 := by rw [Int.toNat_natCast]; exact he0
            have hs0 : stepX out x = out ++ [⟨2, ((x.who.toNat % 4 % 3 : Nat) : Int), zOp, if y.op.kind = 1 ∧ errX y x = 0 then List.replicate 32 (blkB x.data) else zBk, errX y x⟩] := by rw [stepX, if_neg hns, if_neg hp, hy]
            have hb := rbad_is y.op 3
            obtain ⟨bad, hbad⟩ : ∃ b, badO y.op 3 = b := ⟨_, rfl⟩
            obtain ⟨lo, hlo⟩ : ∃ b, decide (x.what.toNat < 200) = b := ⟨_, rfl⟩
            have hlo' : decide ((x.what.toNat : Int) < 200) = lo := by rw [← hlo]; exact decide_eq_decide.2 (by omega)
            rw [hbad] at hb
            unfold r01 at hb
            refine wF ?_;refine kS ?_;refine sR ?_;refine rC ?_;refine rQ (StepIs.frozen (build_slice (s := 1) tab_ok rfl rfl rfl rfl rfl rfl rfl rfl) (Frz.litsN (enc := i6) [0, 0, 0, 0, 0, 1, 8, 9] rfl (fun _ _ => rfl))) ?_
            refine rC ?_;refine rQ iB ?_;refine rQ (rem_nat (a := x.what.toNat) (b := 8) tab_ok rfl rfl rfl (by decide)) ?_;refine rQ (index_arr (xs := errs8) tab_ok rfl rfl rfl rfl rfl (by omega) hE) ?_
            refine rQ iL ?_;refine rQ (StepIs.val_le (build_struct tab_ok rfl rfl rfl rfl) (zev_le 2 ((x.who.toNat % 4 % 3 : Nat) : Int) e0) rfl) ?_;refine rN ?_;refine rW ?_
            refine nQ ?_;refine sR ?_;iterate 2 refine rC ?_
            refine rQ (index_own tab_ok rfl rfl rfl rfl rfl hge hlp) ?_;refine rC ?_;refine rQ (load_row tab_ok rfl rfl ⟨rfl, y, hy, _, rfl, rfl⟩ rfl) ?_;refine rQ (call_r hb rfl rfl (arg_e (arg_e arg_nil)) (.inl rfl) (fun _ => rfl)) ?_
            iterate 2 refine rC ?_
            cases bad with
            | true =>
              rw [if_pos rfl] at hb
              refine rP ?_;refine rC ?_;refine rP ?_;refine rQ iB ?_;refine rP ?_;refine rC ?_;refine rQ iU ?_;refine nS ?_
              cases lo with
              | true =>
                have heX : errX y x = 1 := by rw [errX, hbad, hlo]; rfl
                rw [heX] at hs0
                refine wT ?_;refine wc_region ?_;refine rC ?_;refine rX ?_;refine nQ ?_;refine sR ?_;iterate 2 refine rC ?_
                refine rQ (index_own tab_ok rfl rfl rfl rfl rfl hge hlp) ?_;iterate 2 refine rC ?_
                refine rQ (load_row tab_ok rfl rfl ⟨rfl, y, hy, _, rfl, rfl⟩ rfl) ?_;iterate 2 refine rC ?_
                by_cases hk : y.op.kind = 1
                · have dk : decide (y.op.kind = 1) = true := decide_eq_true hk
                  have hst : stepX out x = out ++ [⟨2, ((x.who.toNat % 4 % 3 : Nat) : Int), zOp, zBk, 1⟩] := by rw [hs0, if_neg (by omega)]
                  have hl1 : out.length + 1 = (out ++ [(⟨2, ((x.who.toNat % 4 % 3 : Nat) : Int), zOp, zBk, 1⟩ : HEv)]).length := by simp
                  refine rO ?_;refine rC ?_;refine rO ?_;refine rQ iB ?_;refine rO ?_;refine rC ?_;refine rQ iT ?_;refine nS ?_;refine wG ?_;refine kS ?_;refine wc_region ?_;refine rC ?_
                  refine rQ iM ?_;refine reg_new (build_slice (s := 38) tab_ok rfl rfl rfl rfl rfl rfl rfl rfl) rfl ?_;refine reg_new2 (append_one (enc := encEv) (s := 38) (xs := out) tab_ok ⟨2, ((x.who.toNat % 4 % 3 : Nat) : Int), zOp, zBk, 1⟩ rfl rfl rfl rfl rfl rfl rfl rfl rfl hal rfl) rfl ?_
                  refine rC ?_;refine reg_nil ?_;refine blk_n ?_;refine seq_n ?_;refine wc_region ?_;refine rC ?_;refine rQ iD ?_;refine rC ?_;refine reg_nil ?_
                  exact loop_n (i + 1, out ++ [⟨2, ((x.who.toNat % 4 % 3 : Nat) : Int), zOp, zBk, 1⟩]) [(64, some 64), (65, some _)] ⟨hlt, h24, by rw [hfx, hst]⟩ (by show 24 - (i + 1) < 24 - i; omega) (.of rfl rfl rfl rfl rfl ⟨⟨_, rfl, .refl _⟩, rfl, ⟨_, rfl, AVLe.of_eq (congrArg (fun n => AV.own _ 0 n 38 none) hl1)⟩, rfl, ⟨_, rfl, .refl _⟩, rfl, trivial⟩ ⟨⟨rfl, rfl, _, rfl, .refl _⟩, ⟨rfl, rfl, _, rfl, .refl _⟩, trivial⟩)
                · have dk : decide (y.op.kind = 1) = false := decide_eq_false hk
                  have hst : stepX out x = out ++ [⟨2, ((x.who.toNat % 4 % 3 : Nat) : Int), zOp, zBk, 1⟩] := by rw [hs0, if_neg (fun h => hk h.1)]
                  have hl1 : out.length + 1 = (out ++ [(⟨2, ((x.who.toNat % 4 % 3 : Nat) : Int), zOp, zBk, 1⟩ : HEv)]).length := by simp
                  iterate 3 refine rS ?_
                  refine rQ iF ?_;refine nS ?_;refine wG ?_;refine kS ?_;refine wc_region ?_;refine rC ?_;refine rQ iM ?_;refine reg_new (build_slice (s := 38) tab_ok rfl rfl rfl rfl rfl rfl rfl rfl) rfl ?_
                  refine reg_new2 (append_one (enc := encEv) (s := 38) (xs := out) tab_ok ⟨2, ((x.who.toNat % 4 % 3 : Nat) : Int), zOp, zBk, 1⟩ rfl rfl rfl rfl rfl rfl rfl rfl rfl hal rfl) rfl ?_
                  refine rC ?_;refine reg_nil ?_;refine blk_n ?_;refine seq_n ?_;refine wc_region ?_;refine rC ?_;refine rQ iD ?_;refine rC ?_;refine reg_nil ?_
                  exact loop_n (i + 1, out ++ [⟨2, ((x.who.toNat % 4 % 3 : Nat) : Int), zOp, zBk, 1⟩]) [(64, some 64), (65, some _)] ⟨hlt, h24, by rw [hfx, hst]⟩ (by show 24 - (i + 1) < 24 - i; omega) (.of rfl rfl rfl rfl rfl ⟨⟨_, rfl, .refl _⟩, rfl, ⟨_, rfl, AVLe.of_eq (congrArg (fun n => AV.own _ 0 n 38 none) hl1)⟩, rfl, ⟨_, rfl, .refl _⟩, rfl, trivial⟩ ⟨⟨rfl, rfl, _, rfl, .refl _⟩, ⟨rfl, rfl, _, rfl, .refl _⟩, trivial⟩)
              | false =>
                have heX : errX y x = e0 := by rw [errX, hbad, hlo, he0]; rfl
                rw [heX] at hs0
                refine wF ?_;refine kS ?_;refine qR ?_;iterate 2 refine rC ?_
                refine rQ (index_own tab_ok rfl rfl rfl rfl rfl hge hlp) ?_;iterate 2 refine rC ?_
                refine rQ (load_row tab_ok rfl rfl ⟨rfl, y, hy, _, rfl, rfl⟩ rfl) ?_;iterate 2 refine rC ?_
                by_cases hk : y.op.kind = 1
                · have dk : decide (y.op.kind = 1) = true := decide_eq_true hk
                  refine rO ?_;refine rC ?_;refine rO ?_;refine rQ iB ?_;refine rO ?_;refine rC ?_;refine rQ iT ?_;refine nS ?_
                  by_cases hz : e0 = 0
                  · have dz : decide (e0 = 0) = true := decide_eq_true hz
                    have hst : stepX out x = out ++ [⟨2, ((x.who.toNat % 4 % 3 : Nat) : Int), zOp, List.replicate 32 (blkB x.data), e0⟩] := by rw [hs0, if_pos ⟨hk, hz⟩]
                    have hl1 : out.length + 1 = (out ++ [(⟨2, ((x.who.toNat % 4 % 3 : Nat) : Int), zOp, List.replicate 32 (blkB x.data), e0⟩ : HEv)]).length := by simp
                    refine wT ?_;refine wc_region ?_;refine rC ?_;refine rQ iB ?_;refine rQ (call_r (blk_is x.data) rfl rfl (arg_e arg_nil) (.inl rfl) (fun _ => rfl)) ?_;refine rC ?_
                    refine rX ?_;refine nS ?_;refine wc_region ?_;refine rC ?_;refine rQ iM ?_;refine reg_new (build_slice (s := 38) tab_ok rfl rfl rfl rfl rfl rfl rfl rfl) rfl ?_;refine reg_new2 (append_one (enc := encEv) (s := 38) (xs := out) tab_ok ⟨2, ((x.who.toNat % 4 % 3 : Nat) : Int), zOp, List.replicate 32 (blkB x.data), e0⟩ rfl rfl rfl rfl rfl rfl rfl rfl rfl hal rfl) rfl ?_
                    refine rC ?_;refine reg_nil ?_;refine blk_n ?_;refine seq_n ?_;refine wc_region ?_;refine rC ?_;refine rQ iD ?_;refine rC ?_;refine reg_nil ?_
                    exact loop_n (i + 1, out ++ [⟨2, ((x.who.toNat % 4 % 3 : Nat) : Int), zOp, List.replicate 32 (blkB x.data), e0⟩]) [(64, some 64), (65, some _)] ⟨hlt, h24, by rw [hfx, hst]⟩ (by show 24 - (i + 1) < 24 - i; omega) (.of rfl rfl rfl rfl rfl ⟨⟨_, rfl, .refl _⟩, rfl, ⟨_, rfl, AVLe.of_eq (congrArg (fun n => AV.own _ 0 n 38 none) hl1)⟩, rfl, ⟨_, rfl, .refl _⟩, rfl, trivial⟩ ⟨⟨rfl, rfl, _, rfl, .refl _⟩, ⟨rfl, rfl, _, rfl, .refl _⟩, trivial⟩)
                  · have dz : decide (e0 = 0) = false := decide_eq_false hz
                    have hst : stepX out x = out ++ [⟨2, ((x.who.toNat % 4 % 3 : Nat) : Int), zOp, zBk, e0⟩] := by rw [hs0, if_neg (fun h => hz h.2)]
                    have hl1 : out.length + 1 = (out ++ [(⟨2, ((x.who.toNat % 4 % 3 : Nat) : Int), zOp, zBk, e0⟩ : HEv)]).length := by simp
                    refine wF ?_;refine kS ?_;refine wc_region ?_;refine rC ?_;refine rQ iM ?_;refine reg_new (build_slice (s := 38) tab_ok rfl rfl rfl rfl rfl rfl rfl rfl) rfl ?_;refine reg_new2 (append_one (enc := encEv) (s := 38) (xs := out) tab_ok ⟨2, ((x.who.toNat % 4 % 3 : Nat) : Int), zOp, zBk, e0⟩ rfl rfl rfl rfl rfl rfl rfl rfl rfl hal rfl) rfl ?_
                    refine rC ?_;refine reg_nil ?_;refine blk_n ?_;refine seq_n ?_;refine wc_region ?_;refine rC ?_;refine rQ iD ?_;refine rC ?_;refine reg_nil ?_
                    exact loop_n (i + 1, out ++ [⟨2, ((x.who.toNat % 4 % 3 : Nat) : Int), zOp, zBk, e0⟩]) [(64, some 64), (65, some _)] ⟨hlt, h24, by rw [hfx, hst]⟩ (by show 24 - (i + 1) < 24 - i; omega) (.of rfl rfl rfl rfl rfl ⟨⟨_, rfl, .refl _⟩, rfl, ⟨_, rfl, AVLe.of_eq (congrArg (fun n => AV.own _ 0 n 38 none) hl1)⟩, rfl, ⟨_, rfl, .refl _⟩, rfl, trivial⟩ ⟨⟨rfl, rfl, _, rfl, .refl _⟩, ⟨rfl, rfl, _, rfl, .refl _⟩, trivial⟩)
                · have dk : decide (y.op.kind = 1) = false := decide_eq_false hk
                  have hst : stepX out x = out ++ [⟨2, ((x.who.toNat % 4 % 3 : Nat) : Int), zOp, zBk, e0⟩] := by rw [hs0, if_neg (fun h => hk h.1)]
                  have hl1 : out.length + 1 = (out ++ [(⟨2, ((x.who.toNat % 4 % 3 : Nat) : Int), zOp, zBk, e0⟩ : HEv)]).length := by simp
                  iterate 3 refine rS ?_
                  refine rQ iF ?_;refine nS ?_;refine wG ?_;refine kS ?_;refine wc_region ?_;refine rC ?_;refine rQ iM ?_;refine reg_new (build_slice (s := 38) tab_ok rfl rfl rfl rfl rfl rfl rfl rfl) rfl ?_
                  refine reg_new2 (append_one (enc := encEv) (s := 38) (xs := out) tab_ok ⟨2, ((x.who.toNat % 4 % 3 : Nat) : Int), zOp, zBk, e0⟩ rfl rfl rfl rfl rfl rfl rfl rfl rfl hal rfl) rfl ?_
                  refine rC ?_;refine reg_nil ?_;refine blk_n ?_;refine seq_n ?_;refine wc_region ?_;refine rC ?_;refine rQ iD ?_;refine rC ?_;refine reg_nil ?_
                  exact loop_n (i + 1, out ++ [⟨2, ((x.who.toNat % 4 % 3 : Nat) : Int), zOp, zBk, e0⟩]) [(64, some 64), (65, some _)] ⟨hlt, h24, by rw [hfx, hst]⟩ (by show 24 - (i + 1) < 24 - i; omega) (.of rfl rfl rfl rfl rfl ⟨⟨_, rfl, .refl _⟩, rfl, ⟨_, rfl, AVLe.of_eq (congrArg (fun n => AV.own _ 0 n 38 none) hl1)⟩, rfl, ⟨_, rfl, .refl _⟩, rfl, trivial⟩ ⟨⟨rfl, rfl, _, rfl, .refl _⟩, ⟨rfl, rfl, _, rfl, .refl _⟩, trivial⟩)
            | false =>
              rw [if_neg (by decide)] at hb
              have heX : errX y x = e0 := by rw [errX, hbad, he0]; rfl
              rw [heX] at hs0
              iterate 3 refine rT ?_
              refine rQ iG ?_;refine nS ?_;refine wG ?_;refine kS ?_;refine qR ?_;iterate 2 refine rC ?_
              refine rQ (index_own tab_ok rfl rfl rfl rfl rfl hge hlp) ?_;iterate 2 refine rC ?_
              refine rQ (load_row tab_ok rfl rfl ⟨rfl, y, hy, _, rfl, rfl⟩ rfl) ?_;iterate 2 refine rC ?_
              by_cases hk : y.op.kind = 1
              · have dk : decide (y.op.kind = 1) = true := decide_eq_true hk
                refine rO ?_;refine rC ?_;refine rO ?_;refine rQ iB ?_;refine rO ?_;refine rC ?_;refine rQ iT ?_;refine nS ?_
                by_cases hz : e0 = 0
                · have dz : decide (e0 = 0) = true := decide_eq_true hz
                  have hst : stepX out x = out ++ [⟨2, ((x.who.toNat % 4 % 3 : Nat) : Int), zOp, List.replicate 32 (blkB x.data), e0⟩] := by rw [hs0, if_pos ⟨hk, hz⟩]
                  have hl1 : out.length + 1 = (out ++ [(⟨2, ((x.who.toNat % 4 % 3 : Nat) : Int), zOp, List.replicate 32 (blkB x.data), e0⟩ : HEv)]).length := by simp
                  refine wT ?_;refine wc_region ?_;refine rC ?_;refine rQ iB ?_;refine rQ (call_r (blk_is x.data) rfl rfl (arg_e arg_nil) (.inl rfl) (fun _ => rfl)) ?_;refine rC ?_
                  refine rX ?_;refine nS ?_;refine wc_region ?_;refine rC ?_;refine rQ iM ?_;refine reg_new (build_slice (s := 38) tab_ok rfl rfl rfl rfl rfl rfl rfl rfl) rfl ?_;refine reg_new2 (append_one (enc := encEv) (s := 38) (xs := out) tab_ok ⟨2, ((x.who.toNat % 4 % 3 : Nat) : Int), zOp, List.replicate 32 (blkB x.data), e0⟩ rfl rfl rfl rfl rfl rfl rfl rfl rfl hal rfl) rfl ?_
                  refine rC ?_;refine reg_nil ?_;refine blk_n ?_;refine seq_n ?_;refine wc_region ?_;refine rC ?_;refine rQ iD ?_;refine rC ?_;refine reg_nil ?_
                  exact loop_n (i + 1, out ++ [⟨2, ((x.who.toNat % 4 % 3 : Nat) : Int), zOp, List.replicate 32 (blkB x.data), e0⟩]) [(64, some 64), (65, some _)] ⟨hlt, h24, by rw [hfx, hst]⟩ (by show 24 - (i + 1) < 24 - i; omega) (.of rfl rfl rfl rfl rfl ⟨⟨_, rfl, .refl _⟩, rfl, ⟨_, rfl, AVLe.of_eq (congrArg (fun n => AV.own _ 0 n 38 none) hl1)⟩, rfl, ⟨_, rfl, .refl _⟩, rfl, trivial⟩ ⟨⟨rfl, rfl, _, rfl, .refl _⟩, ⟨rfl, rfl, _, rfl, .refl _⟩, trivial⟩)
                · have dz : decide (e0 = 0) = false := decide_eq_false hz
                  have hst : stepX out x = out ++ [⟨2, ((x.who.toNat % 4 % 3 : Nat) : Int), zOp, zBk, e0⟩] := by rw [hs0, if_neg (fun h => hz h.2)]
                  have hl1 : out.length + 1 = (out ++ [(⟨2, ((x.who.toNat % 4 % 3 : Nat) : Int), zOp, zBk, e0⟩ : HEv)]).length := by simp
                  refine wF ?_;refine kS ?_;refine wc_region ?_;refine rC ?_;refine rQ iM ?_;refine reg_new (build_slice (s := 38) tab_ok rfl rfl rfl rfl rfl rfl rfl rfl) rfl ?_;refine reg_new2 (append_one (enc := encEv) (s := 38) (xs := out) tab_ok ⟨2, ((x.who.toNat % 4 % 3 : Nat) : Int), zOp, zBk, e0⟩ rfl rfl rfl rfl rfl rfl rfl rfl rfl hal rfl) rfl ?_
                  refine rC ?_;refine reg_nil ?_;refine blk_n ?_;refine seq_n ?_;refine wc_region ?_;refine rC ?_;refine rQ iD ?_;refine rC ?_;refine reg_nil ?_
                  exact loop_n (i + 1, out ++ [⟨2, ((x.who.toNat % 4 % 3 : Nat) : Int), zOp, zBk, e0⟩]) [(64, some 64), (65, some _)] ⟨hlt, h24, by rw [hfx, hst]⟩ (by show 24 - (i + 1) < 24 - i; omega) (.of rfl rfl rfl rfl rfl ⟨⟨_, rfl, .refl _⟩, rfl, ⟨_, rfl, AVLe.of_eq (congrArg (fun n => AV.own _ 0 n 38 none) hl1)⟩, rfl, ⟨_, rfl, .refl _⟩, rfl, trivial⟩ ⟨⟨rfl, rfl, _, rfl, .refl _⟩, ⟨rfl, rfl, _, rfl, .refl _⟩, trivial⟩)
              · have dk : decide (y.op.kind = 1) = false := decide_eq_false hk
                have hst : stepX out x = out ++ [⟨2, ((x.who.toNat % 4 % 3 : Nat) : Int), zOp, zBk, e0⟩] := by rw [hs0, if_neg (fun h => hk h.1)]
                have hl1 : out.length + 1 = (out ++ [(⟨2, ((x.who.toNat % 4 % 3 : Nat) : Int), zOp, zBk, e0⟩ : HEv)]).length := by simp
                iterate 3 refine rS ?_
                refine rQ iF ?_;refine nS ?_;refine wG ?_;refine kS ?_;refine wc_region ?_;refine rC ?_;refine rQ iM ?_;refine reg_new (build_slice (s := 38) tab_ok rfl rfl rfl rfl rfl rfl rfl rfl) rfl ?_
                refine reg_new2 (append_one (enc := encEv) (s := 38) (xs := out) tab_ok ⟨2, ((x.who.toNat % 4 % 3 : Nat) : Int), zOp, zBk, e0⟩ rfl rfl rfl rfl rfl rfl rfl rfl rfl hal rfl) rfl ?_
                refine rC ?_;refine reg_nil ?_;refine blk_n ?_;refine seq_n ?_;refine wc_region ?_;refine rC ?_;refine rQ iD ?_;refine rC ?_;refine reg_nil ?_
                exact loop_n (i + 1, out ++ [⟨2, ((x.who.toNat % 4 % 3 : Nat) : Int), zOp, zBk, e0⟩]) [(64, some 64), (65, some _)] ⟨hlt, h24, by rw [hfx, hst]⟩ (by show 24 - (i + 1) < 24 - i; omega) (.of rfl rfl rfl rfl rfl ⟨⟨_, rfl, .refl _⟩, rfl, ⟨_, rfl, AVLe.of_eq (congrArg (fun n => AV.own _ 0 n 38 none) hl1)⟩, rfl, ⟨_, rfl, .refl _⟩, rfl, trivial⟩ ⟨⟨rfl, rfl, _, rfl, .refl _⟩, ⟨rfl, rfl, _, rfl, .refl _⟩, trivial⟩)
      · have d3 : decide (((x.who.toNat % 4 : Nat) : Int) = 3) = false := decide_eq_false (by omega)
        have hns : ¬ (x.who.toNat % 4 = 3 ∧ x.what.toNat ≤ 20) := by omega
        iterate 3 refine rS ?_
        refine rQ iF ?_;refine nS ?_;refine wG ?_;refine kS ?_;refine sR ?_;refine rC ?_;refine rQ (rem_nat (a := x.who.toNat % 4) (b := 3) tab_ok rfl rfl rfl (by decide)) ?_
        refine rC ?_;refine nR ?_;iterate 2 refine rC ?_
        refine rQ (call_r (pend_is out ((x.who.toNat % 4 % 3 : Nat) : Int) hpl) rfl rfl (arg_own rfl (arg_e arg_nil)) (.inr (PlainRes.sc _)) (fun _ => rfl)) ?_;refine rC ?_
        refine nQ ?_;refine sR ?_;iterate 2 refine rC ?_
        refine nS ?_
        by_cases hp : pend out ((x.who.toNat % 4 % 3 : Nat) : Int) < 0
        · have dp : decide (pend out ((x.who.toNat % 4 % 3 : Nat) : Int) < 0) = true := decide_eq_true hp
          have hst : stepX out x = out ++ [⟨1, ((x.who.toNat % 4 % 3 : Nat) : Int), opX x, zBk, 0⟩] := by rw [stepX, if_neg hns, if_pos hp]
          have hl1 : out.length + 1 = (out ++ [(⟨1, ((x.who.toNat % 4 % 3 : Nat) : Int), opX x, zBk, 0⟩ : HEv)]).length := by simp
          refine wT ?_;refine sR ?_;iterate 2 refine rC ?_
          refine rQ iM ?_;refine rQ (call_r (opx_is x) rfl rfl (arg_e arg_nil) (.inl rfl) (fun _ => rfl)) ?_;refine rQ iS ?_;refine reg_new (build_slice (s := 38) tab_ok rfl rfl rfl rfl rfl rfl rfl rfl) rfl ?_
          refine reg_new2 (append_one (enc := encEv) (s := 38) (xs := out) tab_ok ⟨1, ((x.who.toNat % 4 % 3 : Nat) : Int), opX x, zBk, 0⟩ rfl rfl rfl rfl rfl rfl rfl rfl rfl hal rfl) rfl ?_
          refine rC ?_;refine nS ?_;refine wc_exit ?_;refine seq_x ?_;refine blk_x ?_;refine seq_n ?_;refine wc_region ?_;refine rC ?_;refine rQ iD ?_;refine rC ?_;refine reg_nil ?_
          exact loop_n (i + 1, out ++ [⟨1, ((x.who.toNat % 4 % 3 : Nat) : Int), opX x, zBk, 0⟩]) [(64, some 64), (65, some _)] ⟨hlt, h24, by rw [hfx, hst]⟩ (by show 24 - (i + 1) < 24 - i; omega) (.of rfl rfl rfl rfl rfl ⟨⟨_, rfl, .refl _⟩, rfl, ⟨_, rfl, AVLe.of_eq (congrArg (fun n => AV.own _ 0 n 38 none) hl1)⟩, rfl, ⟨_, rfl, .refl _⟩, rfl, trivial⟩ ⟨⟨rfl, rfl, _, rfl, .refl _⟩, ⟨rfl, rfl, _, rfl, .refl _⟩, trivial⟩)
        · have dp : decide (pend out ((x.who.toNat % 4 % 3 : Nat) : Int) < 0) = false := decide_eq_false hp
          have hpi := pend_in out ((x.who.toNat % 4 % 3 : Nat) : Int)
          have hge : 0 ≤ pend out ((x.who.toNat % 4 % 3 : Nat) : Int) := by omega
          have hlp : pend out ((x.who.toNat % 4 % 3 : Nat) : Int) < (out.length : Int) := hpi.2
          obtain ⟨y, hy⟩ : ∃ y, out[(pend out ((x.who.toNat % 4 % 3 : Nat) : Int)).toNat]? = some y := ⟨_, List.getElem?_eq_getElem (by omega)⟩
          obtain ⟨e0, he0⟩ : ∃ e0, errs8[x.what.toNat % 8]? = some e0 := ⟨_, List.getElem?_eq_getElem (Nat.mod_lt _ (by decide))⟩
          have hE : errs8[(((x.what.toNat % 8 : Nat) : Int)).toNat]? = some e0 := by rw [Int.toNat_natCast]; exact he0
          have hs0 : stepX out x = out ++ [⟨2, ((x.who.toNat % 4 % 3 : Nat) : Int), zOp, if y.op.kind = 1 ∧ errX y x = 0 then List.replicate 32 (blkB x.data) else zBk, errX y x⟩] := by rw [stepX, if_neg hns, if_neg hp, hy]
          have hb := rbad_is y.op 3
          obtain ⟨bad, hbad⟩ : ∃ b, badO y.op 3 = b := ⟨_, rfl⟩
          obtain ⟨lo, hlo⟩ : ∃ b, decide (x.what.toNat < 200) = b := ⟨_, rfl⟩
          have hlo' : decide ((x.what.toNat : Int) < 200) = lo := by rw [← hlo]; exact decide_eq_decide.2 (by omega)
          rw [hbad] at hb
          unfold r01 at hb
          refine wF ?_;refine kS ?_;refine sR ?_;refine rC ?_;refine rQ (StepIs.frozen (build_slice (s := 1) tab_ok rfl rfl rfl rfl rfl rfl rfl rfl) (Frz.litsN (enc := i6) [0, 0, 0, 0, 0, 1, 8, 9] rfl (fun _ _ => rfl))) ?_
          refine rC ?_;refine rQ iB ?_;refine rQ (rem_nat (a := x.what.toNat) (b := 8) tab_ok rfl rfl rfl (by decide)) ?_;refine rQ (index_arr (xs := errs8) tab_ok rfl rfl rfl rfl rfl (by omega) hE) ?_
          refine rQ iL ?_;refine rQ (StepIs.val_le (build_struct tab_ok rfl rfl rfl rfl) (zev_le 2 ((x.who.toNat % 4 % 3 : Nat) : Int) e0) rfl) ?_;refine rN ?_;refine rW ?_
          refine nQ ?_;refine sR ?_;iterate 2 refine rC ?_
          refine rQ (index_own tab_ok rfl rfl rfl rfl rfl hge hlp) ?_;refine rC ?_;refine rQ (load_row tab_ok rfl rfl ⟨rfl, y, hy, _, rfl, rfl⟩ rfl) ?_;refine rQ (call_r hb rfl rfl (arg_e (arg_e arg_nil)) (.inl rfl) (fun _ => rfl)) ?_
          iterate 2 refine rC ?_
          cases bad with
          | true =>
            rw [if_pos rfl] at hb
            refine rP ?_;refine rC ?_;refine rP ?_;refine rQ iB ?_;refine rP ?_;refine rC ?_;refine rQ iU ?_;refine nS ?_
            cases lo with
            | true =>
              have heX : errX y x = 1 := by rw [errX, hbad, hlo]; rfl
              rw [heX] at hs0
              refine wT ?_;refine wc_region ?_;refine rC ?_;refine rX ?_;refine nQ ?_;refine sR ?_;iterate 2 refine rC ?_
              refine rQ (index_own tab_ok rfl rfl rfl rfl rfl hge hlp) ?_;iterate 2 refine rC ?_
              refine rQ (load_row tab_ok rfl rfl ⟨rfl, y, hy, _, rfl, rfl⟩ rfl) ?_;iterate 2 refine rC ?_
              by_cases hk : y.op.kind = 1
              · have dk : decide (y.op.kind = 1) = true := decide_eq_true hk
                have hst : stepX out x = out ++ [⟨2, ((x.who.toNat % 4 % 3 : Nat) : Int), zOp, zBk, 1⟩] := by rw [hs0, if_neg (by omega)]
                have hl1 : out.length + 1 = (out ++ [(⟨2, ((x.who.toNat % 4 % 3 : Nat) : Int), zOp, zBk, 1⟩ : HEv)]).length := by simp
                refine rO ?_;refine rC ?_;refine rO ?_;refine rQ iB ?_;refine rO ?_;refine rC ?_;refine rQ iT ?_;refine nS ?_;refine wG ?_;refine kS ?_;refine wc_region ?_;refine rC ?_
                refine rQ iM ?_;refine reg_new (build_slice (s := 38) tab_ok rfl rfl rfl rfl rfl rfl rfl rfl) rfl ?_;refine reg_new2 (append_one (enc := encEv) (s := 38) (xs := out) tab_ok ⟨2, ((x.who.toNat % 4 % 3 : Nat) : Int), zOp, zBk, 1⟩ rfl rfl rfl rfl rfl rfl rfl rfl rfl hal rfl) rfl ?_
                refine rC ?_;refine reg_nil ?_;refine blk_n ?_;refine seq_n ?_;refine wc_region ?_;refine rC ?_;refine rQ iD ?_;refine rC ?_;refine reg_nil ?_
                exact loop_n (i + 1, out ++ [⟨2, ((x.who.toNat % 4 % 3 : Nat) : Int), zOp, zBk, 1⟩]) [(64, some 64), (65, some _)] ⟨hlt, h24, by rw [hfx, hst]⟩ (by show 24 - (i + 1) < 24 - i; omega) (.of rfl rfl rfl rfl rfl ⟨⟨_, rfl, .refl _⟩, rfl, ⟨_, rfl, AVLe.of_eq (congrArg (fun n => AV.own _ 0 n 38 none) hl1)⟩, rfl, ⟨_, rfl, .refl _⟩, rfl, trivial⟩ ⟨⟨rfl, rfl, _, rfl, .refl _⟩, ⟨rfl, rfl, _, rfl, .refl _⟩, trivial⟩)
              · have dk : decide (y.op.kind = 1) = false := decide_eq_false hk
                have hst : stepX out x = out ++ [⟨2, ((x.who.toNat % 4 % 3 : Nat) : Int), zOp, zBk, 1⟩] := by rw [hs0, if_neg (fun h => hk h.1)]
                have hl1 : out.length + 1 = (out ++ [(⟨2, ((x.who.toNat % 4 % 3 : Nat) : Int), zOp, zBk, 1⟩ : HEv)]).length := by simp
                iterate 3 refine rS ?_
                refine rQ iF ?_;refine nS ?_;refine wG ?_;refine kS ?_;refine wc_region ?_;refine rC ?_;refine rQ iM ?_;refine reg_new (build_slice (s := 38) tab_ok rfl rfl rfl rfl rfl rfl rfl rfl) rfl ?_
                refine reg_new2 (append_one (enc := encEv) (s := 38) (xs := out) tab_ok ⟨2, ((x.who.toNat % 4 % 3 : Nat) : Int), zOp, zBk, 1⟩ rfl rfl rfl rfl rfl rfl rfl rfl rfl hal rfl) rfl ?_
                refine rC ?_;refine reg_nil ?_;refine blk_n ?_;refine seq_n ?_;refine wc_region ?_;refine rC ?_;refine rQ iD ?_;refine rC ?_;refine reg_nil ?_
                exact loop_n (i + 1, out ++ [⟨2, ((x.who.toNat % 4 % 3 : Nat) : Int), zOp, zBk, 1⟩]) [(64, some 64), (65, some _)] ⟨hlt, h24, by rw [hfx, hst]⟩ (by show 24 - (i + 1) < 24 - i; omega) (.of rfl rfl rfl rfl rfl ⟨⟨_, rfl, .refl _⟩, rfl, ⟨_, rfl, AVLe.of_eq (congrArg (fun n => AV.own _ 0 n 38 none) hl1)⟩, rfl, ⟨_, rfl, .refl _⟩, rfl, trivial⟩ ⟨⟨rfl, rfl, _, rfl, .refl _⟩, ⟨rfl, rfl, _, rfl, .refl _⟩, trivial⟩)
            | false =>
              have heX : errX y x = e0 := by rw [errX, hbad, hlo, he0]; rfl
              rw [heX] at hs0
              refine wF ?_;refine kS ?_;refine qR ?_;iterate 2 refine rC ?_
              refine rQ (index_own tab_ok rfl rfl rfl rfl rfl hge hlp) ?_;iterate 2 refine rC ?_
              refine rQ (load_row tab_ok rfl rfl ⟨rfl, y, hy, _, rfl, rfl⟩ rfl) ?_;iterate 2 refine rC ?_
              by_cases hk : y.op.kind = 1
              · have dk : decide (y.op.kind = 1) = true := decide_eq_true hk
                refine rO ?_;refine rC ?_;refine rO ?_;refine rQ iB ?_;refine rO ?_;refine rC ?_;refine rQ iT ?_;refine nS ?_
                by_cases hz : e0 = 0
                · have dz : decide (e0 = 0) = true := decide_eq_true hz
                  have hst : stepX out x = out ++ [⟨2, ((x.who.toNat % 4 % 3 : Nat) : Int), zOp, List.replicate 32 (blkB x.data), e0⟩] := by rw [hs0, if_pos ⟨hk, hz⟩]
                  have hl1 : out.length + 1 = (out ++ [(⟨2, ((x.who.toNat % 4 % 3 : Nat) : Int), zOp, List.replicate 32 (blkB x.data), e0⟩ : HEv)]).length := by simp
                  refine wT ?_;refine wc_region ?_;refine rC ?_;refine rQ iB ?_;refine rQ (call_r (blk_is x.data) rfl rfl (arg_e arg_nil) (.inl rfl) (fun _ => rfl)) ?_;refine rC ?_
                  refine rX ?_;refine nS ?_;refine wc_region ?_;refine rC ?_;refine rQ iM ?_;refine reg_new (build_slice (s := 38) tab_ok rfl rfl rfl rfl rfl rfl rfl rfl) rfl ?_;refine reg_new2 (append_one (enc := encEv) (s := 38) (xs := out) tab_ok ⟨2, ((x.who.toNat % 4 % 3 : Nat) : Int), zOp, List.replicate 32 (blkB x.data), e0⟩ rfl rfl rfl rfl rfl rfl rfl rfl rfl hal rfl) rfl ?_
                  refine rC ?_;refine reg_nil ?_;refine blk_n ?_;refine seq_n ?_;refine wc_region ?_;refine rC ?_;refine rQ iD ?_;refine rC ?_;refine reg_nil ?_
                  exact loop_n (i + 1, out ++ [⟨2, ((x.who.toNat % 4 % 3 : Nat) : Int), zOp, List.replicate 32 (blkB x.data), e0⟩]) [(64, some 64), (65, some _)] ⟨hlt, h24, by rw [hfx, hst]⟩ (by show 24 - (i + 1) < 24 - i; omega) (.of rfl rfl rfl rfl rfl ⟨⟨_, rfl, .refl _⟩, rfl, ⟨_, rfl, AVLe.of_eq (congrArg (fun n => AV.own _ 0 n 38 none) hl1)⟩, rfl, ⟨_, rfl, .refl _⟩, rfl, trivial⟩ ⟨⟨rfl, rfl, _, rfl, .refl _⟩, ⟨rfl, rfl, _, rfl, .refl _⟩, trivial⟩)
                · have dz : decide (e0 = 0) = false := decide_eq_false hz
                  have hst : stepX out x = out ++ [⟨2, ((x.who.toNat % 4 % 3 : Nat) : Int), zOp, zBk, e0⟩] := by rw [hs0, if_neg (fun h => hz h.2)]
                  have hl1 : out.length + 1 = (out ++ [(⟨2, ((x.who.toNat % 4 % 3 : Nat) : Int), zOp, zBk, e0⟩ : HEv)]).length := by simp
                  refine wF ?_;refine kS ?_;refine wc_region ?_;refine rC ?_;refine rQ iM ?_;refine reg_new (build_slice (s := 38) tab_ok rfl rfl rfl rfl rfl rfl rfl rfl) rfl ?_;refine reg_new2 (append_one (enc := encEv) (s := 38) (xs := out) tab_ok ⟨2, ((x.who.toNat % 4 % 3 : Nat) : Int), zOp, zBk, e0⟩ rfl rfl rfl rfl rfl rfl rfl rfl rfl hal rfl) rfl ?_
                  refine rC ?_;refine reg_nil ?_;refine blk_n ?_;refine seq_n ?_;refine wc_region ?_;refine rC ?_;refine rQ iD ?_;refine rC ?_;refine reg_nil ?_
                  exact loop_n (i + 1, out ++ [⟨2, ((x.who.toNat % 4 % 3 : Nat) : Int), zOp, zBk, e0⟩]) [(64, some 64), (65, some _)] ⟨hlt, h24, by rw [hfx, hst]⟩ (by show 24 - (i + 1) < 24 - i; omega) (.of rfl rfl rfl rfl rfl ⟨⟨_, rfl, .refl _⟩, rfl, ⟨_, rfl, AVLe.of_eq (congrArg (fun n => AV.own _ 0 n 38 none) hl1)⟩, rfl, ⟨_, rfl, .refl _⟩, rfl, trivial⟩ ⟨⟨rfl, rfl, _, rfl, .refl _⟩, ⟨rfl, rfl, _, rfl, .refl _⟩, trivial⟩)
              · have dk : decide (y.op.kind = 1) = false := decide_eq_false hk
                have hst : stepX out x = out ++ [⟨2, ((x.who.toNat % 4 % 3 : Nat) : Int), zOp, zBk, e0⟩] := by rw [hs0, if_neg (fun h => hk h.1)]
                have hl1 : out.length + 1 = (out ++ [(⟨2, ((x.who.toNat % 4 % 3 : Nat) : Int), zOp, zBk, e0⟩ : HEv)]).length := by simp
                iterate 3 refine rS ?_
                refine rQ iF ?_;refine nS ?_;refine wG ?_;refine kS ?_;refine wc_region ?_;refine rC ?_;refine rQ iM ?_;refine reg_new (build_slice (s := 38) tab_ok rfl rfl rfl rfl rfl rfl rfl rfl) rfl ?_
                refine reg_new2 (append_one (enc := encEv) (s := 38) (xs := out) tab_ok ⟨2, ((x.who.toNat % 4 % 3 : Nat) : Int), zOp, zBk, e0⟩ rfl rfl rfl rfl rfl rfl rfl rfl rfl hal rfl) rfl ?_
                refine rC ?_;refine reg_nil ?_;refine blk_n ?_;refine seq_n ?_;refine wc_region ?_;refine rC ?_;refine rQ iD ?_;refine rC ?_;refine reg_nil ?_
                exact loop_n (i + 1, out ++ [⟨2, ((x.who.toNat % 4 % 3 : Nat) : Int), zOp, zBk, e0⟩]) [(64, some 64), (65, some _)] ⟨hlt, h24, by rw [hfx, hst]⟩ (by show 24 - (i + 1) < 24 - i; omega) (.of rfl rfl rfl rfl rfl ⟨⟨_, rfl, .refl _⟩, rfl, ⟨_, rfl, AVLe.of_eq (congrArg (fun n => AV.own _ 0 n 38 none) hl1)⟩, rfl, ⟨_, rfl, .refl _⟩, rfl, trivial⟩ ⟨⟨rfl, rfl, _, rfl, .refl _⟩, ⟨rfl, rfl, _, rfl, .refl _⟩, trivial⟩)
          | false =>
            rw [if_neg (by decide)] at hb
            have heX : errX y x = e0 := by rw [errX, hbad, he0]; rfl
            rw [heX] at hs0
            iterate 3 refine rT ?_
            refine rQ iG ?_;refine nS ?_;refine wG ?_;refine kS ?_;refine qR ?_;iterate 2 refine rC ?_
            refine rQ (index_own tab_ok rfl rfl rfl rfl rfl hge hlp) ?_;iterate 2 refine rC ?_
            refine rQ (load_row tab_ok rfl rfl ⟨rfl, y, hy, _, rfl, rfl⟩ rfl) ?_;iterate 2 refine rC ?_
            by_cases hk : y.op.kind = 1
            · have dk : decide (y.op.kind = 1) = true := decide_eq_true hk
              refine rO ?_;refine rC ?_;refine rO ?_;refine rQ iB ?_;refine rO ?_;refine rC ?_;refine rQ iT ?_;refine nS ?_
              by_cases hz : e0 = 0
              · have dz : decide (e0 = 0) = true := decide_eq_true hz
                have hst : stepX out x = out ++ [⟨2, ((x.who.toNat % 4 % 3 : Nat) : Int), zOp, List.replicate 32 (blkB x.data), e0⟩] := by rw [hs0, if_pos ⟨hk, hz⟩]
                have hl1 : out.length + 1 = (out ++ [(⟨2, ((x.who.toNat % 4 % 3 : Nat) : Int), zOp, List.replicate 32 (blkB x.data), e0⟩ : HEv)]).length := by simp
                refine wT ?_;refine wc_region ?_;refine rC ?_;refine rQ iB ?_;refine rQ (call_r (blk_is x.data) rfl rfl (arg_e arg_nil) (.inl rfl) (fun _ => rfl)) ?_;refine rC ?_
                refine rX ?_;refine nS ?_;refine wc_region ?_;refine rC ?_;refine rQ iM ?_;refine reg_new (build_slice (s := 38) tab_ok rfl rfl rfl rfl rfl rfl rfl rfl) rfl ?_;refine reg_new2 (append_one (enc := encEv) (s := 38) (xs := out) tab_ok ⟨2, ((x.who.toNat % 4 % 3 : Nat) : Int), zOp, List.replicate 32 (blkB x.data), e0⟩ rfl rfl rfl rfl rfl rfl rfl rfl rfl hal rfl) rfl ?_
                refine rC ?_;refine reg_nil ?_;refine blk_n ?_;refine seq_n ?_;refine wc_region ?_;refine rC ?_;refine rQ iD ?_;refine rC ?_;refine reg_nil ?_
                exact loop_n (i + 1, out ++ [⟨2, ((x.who.toNat % 4 % 3 : Nat) : Int), zOp, List.replicate 32 (blkB x.data), e0⟩]) [(64, some 64), (65, some _)] ⟨hlt, h24, by rw [hfx, hst]⟩ (by show 24 - (i + 1) < 24 - i; omega) (.of rfl rfl rfl rfl rfl ⟨⟨_, rfl, .refl _⟩, rfl, ⟨_, rfl, AVLe.of_eq (congrArg (fun n => AV.own _ 0 n 38 none) hl1)⟩, rfl, ⟨_, rfl, .refl _⟩, rfl, trivial⟩ ⟨⟨rfl, rfl, _, rfl, .refl _⟩, ⟨rfl, rfl, _, rfl, .refl _⟩, trivial⟩)
              · have dz : decide (e0 = 0) = false := decide_eq_false hz
                have hst : stepX out x = out ++ [⟨2, ((x.who.toNat % 4 % 3 : Nat) : Int), zOp, zBk, e0⟩] := by rw [hs0, if_neg (fun h => hz h.2)]
                have hl1 : out.length + 1 = (out ++ [(⟨2, ((x.who.toNat % 4 % 3 : Nat) : Int), zOp, zBk, e0⟩ : HEv)]).length := by simp
                refine wF ?_;refine kS ?_;refine wc_region ?_;refine rC ?_;refine rQ iM ?_;refine reg_new (build_slice (s := 38) tab_ok rfl rfl rfl rfl rfl rfl rfl rfl) rfl ?_;refine reg_new2 (append_one (enc := encEv) (s := 38) (xs := out) tab_ok ⟨2, ((x.who.toNat % 4 % 3 : Nat) : Int), zOp, zBk, e0⟩ rfl rfl rfl rfl rfl rfl rfl rfl rfl hal rfl) rfl ?_
                refine rC ?_;refine reg_nil ?_;refine blk_n ?_;refine seq_n ?_;refine wc_region ?_;refine rC ?_;refine rQ iD ?_;refine rC ?_;refine reg_nil ?_
                exact loop_n (i + 1, out ++ [⟨2, ((x.who.toNat % 4 % 3 : Nat) : Int), zOp, zBk, e0⟩]) [(64, some 64), (65, some _)] ⟨hlt, h24, by rw [hfx, hst]⟩ (by show 24 - (i + 1) < 24 - i; omega) (.of rfl rfl rfl rfl rfl ⟨⟨_, rfl, .refl _⟩, rfl, ⟨_, rfl, AVLe.of_eq (congrArg (fun n => AV.own _ 0 n 38 none) hl1)⟩, rfl, ⟨_, rfl, .refl _⟩, rfl, trivial⟩ ⟨⟨rfl, rfl, _, rfl, .refl _⟩, ⟨rfl, rfl, _, rfl, .refl _⟩, trivial⟩)
            · have dk : decide (y.op.kind = 1) = false := decide_eq_false hk
              have hst : stepX out x = out ++ [⟨2, ((x.who.toNat % 4 % 3 : Nat) : Int), zOp, zBk, e0⟩] := by rw [hs0, if_neg (fun h => hk h.1)]
              have hl1 : out.length + 1 = (out ++ [(⟨2, ((x.who.toNat % 4 % 3 : Nat) : Int), zOp, zBk, e0⟩ : HEv)]).length := by simp
              iterate 3 refine rS ?_
              refine rQ iF ?_;refine nS ?_;refine wG ?_;refine kS ?_;refine wc_region ?_;refine rC ?_;refine rQ iM ?_;refine reg_new (build_slice (s := 38) tab_ok rfl rfl rfl rfl rfl rfl rfl rfl) rfl ?_
              refine reg_new2 (append_one (enc := encEv) (s := 38) (xs := out) tab_ok ⟨2, ((x.who.toNat % 4 % 3 : Nat) : Int), zOp, zBk, e0⟩ rfl rfl rfl rfl rfl rfl rfl rfl rfl hal rfl) rfl ?_
              refine rC ?_;refine reg_nil ?_;refine blk_n ?_;refine seq_n ?_;refine wc_region ?_;refine rC ?_;refine rQ iD ?_;refine rC ?_;refine reg_nil ?_
              exact loop_n (i + 1, out ++ [⟨2, ((x.who.toNat % 4 % 3 : Nat) : Int), zOp, zBk, e0⟩]) [(64, some 64), (65, some _)] ⟨hlt, h24, by rw [hfx, hst]⟩ (by show 24 - (i + 1) < 24 - i; omega) (.of rfl rfl rfl rfl rfl ⟨⟨_, rfl, .refl _⟩, rfl, ⟨_, rfl, AVLe.of_eq (congrArg (fun n => AV.own _ 0 n 38 none) hl1)⟩, rfl, ⟨_, rfl, .refl _⟩, rfl, trivial⟩ ⟨⟨rfl, rfl, _, rfl, .refl _⟩, ⟨rfl, rfl, _, rfl, .refl _⟩, trivial⟩)
    · have c2 : decide ((i : Int) < 24) = false := decide_eq_false (by omega)
      have hE : out = hOf l := by rw [hout, hOf, show i = 24 by omega]
      rw [← hE]
      refine wF ?_;refine wc_exit ?_;refine seq_x ?_;refine loop_x ?_;refine blk_x ?_;refine seq_n ?_;refine sR ?_;iterate 2 refine rC ?_
      refine nS ?_;refine wc_ret ?_
      exact ⟨trivial, [(64, some _)], .of rfl rfl rfl rfl rfl ⟨⟨_, rfl, AVLe.of_eq rfl⟩, rfl, trivial⟩ ⟨⟨rfl, rfl, _, rfl, .refl _⟩, trivial⟩⟩
  · have c1 : decide ((i : Int) < (l.length : Int)) = false := decide_eq_false (by omega)
    have hE : out = hOf l := by rw [hout, hOf, List.take_of_length_le (by omega), List.take_of_length_le (by omega)]
    rw [← hE]
    iterate 2 refine rS ?_
    refine rQ iF ?_;refine nS ?_;refine wG ?_;refine wc_exit ?_;refine seq_x ?_;refine loop_x ?_;refine blk_x ?_;refine seq_n ?_;refine sR ?_;iterate 2 refine rC ?_
    refine nS ?_;refine wc_ret ?_
    exact ⟨trivial, [(64, some _)], .of rfl rfl rfl rfl rfl ⟨⟨_, rfl, AVLe.of_eq rfl⟩, rfl, trivial⟩ ⟨⟨rfl, rfl, _, rfl, .refl _⟩, trivial⟩⟩
end Go.Proofs.YtmojbghcngdkpaaGreatDoor

namespace Go.Proofs.YtmojbghcngdkpaaGreatDoor
open Go.Eng Go.Plain
set_option maxHeartbeats 8000000
set_option maxRecDepth 20000
attribute [local irreducible] WC RegS RegD SeqQ BlkQ ScoQ RegK CutK Sat SatN FnIs LoopQ StepIs OpIs
theorem byI_pairs : ∀ (l : List UInt8), ∃ t : List UInt8, byI t = pairsV l
  | [] => ⟨[], rfl⟩
  | [a] => ⟨[(nibV a).toUInt8], by
    have := nibV_lt a
    simp only [byI, pairsV, List.map_cons, List.map_nil, Nat.toUInt8_eq, UInt8.toNat_ofNat']
    rw [Nat.mod_eq_of_lt (by omega)]⟩
  | a :: b :: l => by
    obtain ⟨t, ht⟩ := byI_pairs l
    have h1 := nibV_lt a
    have h2 := nibV_lt b
    refine ⟨(nibV a * 16 + nibV b).toUInt8 :: t, ?_⟩
    rw [pairsV, ← ht]
    simp only [byI, List.map_cons, Nat.toUInt8_eq, UInt8.toNat_ofNat']
    rw [Nat.mod_eq_of_lt (by omega)]
theorem byI_uX (m : Nat) (s : List UInt8) (i : Nat) : ∃ t : List UInt8, byI t = uX m s i := by
  obtain ⟨t, ht⟩ := byI_pairs (s.take i)
  refine ⟨t ++ List.replicate (m - (i + 1) / 2) 0, ?_⟩
  rw [uX, ← ht]
  simp [byI]
abbrev blkR (v : List UInt8) (b : Bool) : AV := .tup (.acons (.d (encBk v)) (.acons (.bool b) .anil))
theorem block_short (s : List UInt8) (hs : s.length ≠ 64) (hL : s.length ≤ 9223372036854775807) : FnIs Tryz.prog 119 [.d (strD s)] [] (blkR zBk false) [] := by
  have h0 : (!decide ((s.length : Int) = 64)) = true := by rw [decide_eq_false (by omega)]; rfl
  refine fnIs_of tab_ok Tryz.func119 rfl rfl rfl ?_;refine sR ?_;refine rN ?_;refine rC ?_;refine nQ ?_;refine sR ?_;refine rC ?_;refine rQ (len_s tab_ok rfl rfl) ?_
  refine rC ?_;refine nS ?_;refine wT ?_;refine sR ?_;refine rQ iM ?_;refine rW ?_;refine rC ?_;refine nS ?_;refine wc_ret ?_;refine seq_r ?_
  exact ⟨trivial, _, rfl, [], lf⟩
theorem block_ok (s : List UInt8) (hs : s.length = 2 * 32) (hall : ∀ c ∈ s, 0 ≤ Lib.indexByte hexD c) (t : List UInt8) (ht : byI t = pairsV s) : FnIs Tryz.prog 119 [.d (strD s)] [] (blkR t true) [] := by
  have h0 : (!decide ((s.length : Int) = 64)) = false := by rw [decide_eq_true (by omega)]; rfl
  refine fnIs_of tab_ok Tryz.func119 rfl rfl rfl ?_;refine sR ?_;refine rN ?_;refine rC ?_;refine nQ ?_;refine sR ?_;refine rC ?_;refine rQ (len_s tab_ok rfl rfl) ?_
  refine rC ?_;refine nS ?_;refine wF ?_;refine kS ?_;refine qR ?_;refine rC ?_;refine reg_new (range_str tab_ok rfl rfl) rfl ?_;refine nS ?_;refine wc_block ?_
  refine wc_inv (fun i : Nat => ⟨[(11, .ptr 66 []), (2, .ptr 65 []), (0, .d (strD s))], [(65, some (.box 52 (.d (.vec 32 1 encU8 (uX 32 s i))))), (66, some (.si (mkS s) i))], 72, Tryz.f119.ntmps, 64⟩) (fun i => i ≤ s.length) (fun i => s.length - i) 0 [(65, some 64), (66, some 112)] (Nat.zero_le _)
    (.of rfl rfl rfl rfl rfl ⟨⟨_, rfl, .refl _⟩, rfl, ⟨_, rfl, .refl _⟩, rfl, ⟨_, rfl, .refl _⟩, rfl, trivial⟩ ⟨⟨rfl, rfl, _, rfl, RowLe.of_eq (by rw [uX_zero]; rfl)⟩, ⟨rfl, rfl, _, rfl, .refl _⟩, trivial⟩) ?_
  intro i hi
  refine wc_of ?_
  by_cases hlt : i < s.length
  · obtain ⟨c, hc⟩ : ∃ c, s[i]? = some c := ⟨_, List.getElem?_eq_getElem hlt⟩
    have hib : FnIs Tryz.prog 143 [.d (strD hexD), .int .u8 c.toNat] [] (.int .i64 (Lib.indexByte hexD c)) [] := by
      have := ib_is (l := hexD) (c := (c.toNat : Int))
      rwa [show ((c.toNat : Int)).toNat.toUInt8 = c by simp] at this
    have hneg : ¬ Lib.indexByte hexD c < 0 := by have := hall c (List.mem_of_getElem? hc); omega
    have hd : decide (Lib.indexByte hexD c < 0) = false := decide_eq_false hneg
    obtain ⟨x, hx1, hx2, hx3⟩ := uX_step hc hs
    replace hx2 : (uX 32 s i)[(((i / 2 : Nat) : Int)).toNat]? = some (x : Int) := by rw [Int.toNat_natCast]; exact hx2
    have hn16 := nibV_lt c
    have hwi : IntKind.i64.wrap ((i / 2 : Nat) : Int) = ((i / 2 : Nat) : Int) := wrap_i64 (by omega) (by omega)
    have hw1 : IntKind.u8.wrap ((x : Int) * 16) = ((x * 16 : Nat) : Int) := wrap_u8n (a := x * 16) (by omega)
    have hw2 : IntKind.u8.wrap (Lib.indexByte hexD c) = (nibV c : Int) := by
      rw [show Lib.indexByte hexD c = (nibV c : Int) by unfold nibV; omega]
      exact wrap_u8n (by omega)
    have hw3 : IntKind.u8.wrap (((x * 16 : Nat) : Int) + (nibV c : Int)) = ((x * 16 + nibV c : Nat) : Int) := wrap_u8n (a := x * 16 + nibV c) (by omega)
    have hlow := decode_low (i := i) hc (hexD_low (by omega))
    refine sR ?_;refine reg_new (next_str rfl rfl (by omega)) rfl ?_;refine rC ?_;refine nQ ?_;refine wV ?_;refine kS ?_;refine wc_block ?_;refine sR ?_;iterate 2 refine rC ?_
    refine nR ?_;iterate 2 refine rC ?_
    refine rQ (index_s (l := s) (m := i) tab_ok rfl rfl rfl hc) ?_;refine rQ (call_r hib rfl rfl (arg_e (arg_e arg_nil)) (.inl rfl) (fun _ => rfl)) ?_;refine rC ?_;refine nQ ?_
    refine sR ?_;iterate 2 refine rC ?_
    refine nS ?_;refine wF ?_;refine kS ?_;refine wc_region ?_;refine rC ?_;refine rQ (quo_nat (a := i) (b := 2) tab_ok rfl rfl rfl (by decide) hwi) ?_;refine rC ?_
    refine rQ (quo_nat (a := i) (b := 2) tab_ok rfl rfl rfl (by decide) hwi) ?_;refine rQ (step_C tab_ok (fun K hk => ⟨by omega, by omega, hk⟩)) ?_;refine rQ (load_box tab_ok rfl rfl ⟨_, ⟨rfl, _, hx2, rfl⟩, rfl⟩ rfl) ?_
    refine rQ (mul_int (m := ((x * 16 : Nat) : Int)) tab_ok rfl rfl hw1) ?_;refine rC ?_;refine rQ (conv_int (m := (nibV c : Int)) tab_ok rfl rfl rfl hw2) ?_;refine rQ (add_int (m := ((x * 16 + nibV c : Nat) : Int)) tab_ok rfl rfl hw3) ?_
    refine rQ (step_C tab_ok (fun K hk => ⟨by omega, by omega, hk⟩)) ?_;refine reg_store (store_row tab_ok rfl rfl rfl ⟨_, ⟨_, ⟨rfl, (x : Int), ((x * 16 + nibV c : Nat) : Int), hx2, ⟨rfl, rfl, rfl⟩, rfl⟩, rfl⟩, rfl⟩ rfl) ?_
    refine reg_nil ?_;refine blk_n ?_
    exact loop_n (i + 1) [] hlt (by omega) (.of rfl rfl rfl rfl rfl ⟨⟨_, rfl, .refl _⟩, rfl, ⟨_, rfl, .refl _⟩, rfl, ⟨_, rfl, .refl _⟩, rfl, trivial⟩ ⟨⟨rfl, rfl, _, rfl, RowLe.of_eq (congrArg (fun l => Row.box 52 (.d (.vec 32 1 encU8 l))) hx3)⟩, ⟨rfl, rfl, _, rfl, RowLe.of_eq (by rw [hlow]; rfl)⟩, trivial⟩)
  · have he : i = s.length := by omega
    subst he
    have hE : uX 32 s s.length = byI t := by
      rw [uX, List.take_length, ht, show 32 - (s.length + 1) / 2 = 0 by omega]; simp
    rw [hE]
    refine sR ?_;refine rQ (next_end rfl rfl (by omega)) ?_;refine rC ?_;refine nQ ?_;refine wG ?_;refine wc_exit ?_;refine seq_x ?_;refine loop_x ?_;refine blk_x ?_
    refine seq_n ?_;refine sR ?_;refine rQ iM ?_;refine rW ?_;refine rC ?_;refine nS ?_;refine wc_ret ?_
    exact ⟨trivial, _, rfl, [], lf⟩
theorem first_bad (s : List UInt8) (h : ¬ ∀ c ∈ s, 0 ≤ Lib.indexByte hexD c) : ∃ (j : Nat) (c : UInt8), s[j]? = some c ∧ Lib.indexByte hexD c < 0 ∧ ∀ i, i < j → ∀ b, s[i]? = some b → 0 ≤ Lib.indexByte hexD b := by
  induction s with
  | nil => exact absurd (fun c hc => by cases hc) h
  | cons a s ih =>
    by_cases ha : Lib.indexByte hexD a < 0
    · exact ⟨0, a, rfl, ha, fun i hi => absurd hi (Nat.not_lt_zero _)⟩
    · have hs : ¬ ∀ c ∈ s, 0 ≤ Lib.indexByte hexD c := fun hs => h fun c hc => by
        rcases List.mem_cons.1 hc with rfl | hc
        · omega
        · exact hs c hc
      obtain ⟨j, c, h1, h2, h3⟩ := ih hs
      refine ⟨j + 1, c, by simpa using h1, h2, fun i hi b hb => ?_⟩
      cases i with
      | zero => simp at hb; subst hb; omega
      | succ i => exact h3 i (by omega) b (by simpa using hb)
theorem block_bad (s : List UInt8) (hs : s.length = 2 * 32) (j : Nat) (cj : UInt8) (hj : s[j]? = some cj) (hcj : Lib.indexByte hexD cj < 0) (hbef : ∀ i, i < j → ∀ b, s[i]? = some b → 0 ≤ Lib.indexByte hexD b) (t : List UInt8) (ht : byI t = uX 32 s j) : FnIs Tryz.prog 119 [.d (strD s)] [] (blkR t false) [] := by
  have h0 : (!decide ((s.length : Int) = 64)) = false := by rw [decide_eq_true (by omega)]; rfl
  have hjl := (List.getElem?_eq_some_iff.1 hj).1
  refine fnIs_of tab_ok Tryz.func119 rfl rfl rfl ?_;refine sR ?_;refine rN ?_;refine rC ?_;refine nQ ?_;refine sR ?_;refine rC ?_;refine rQ (len_s tab_ok rfl rfl) ?_
  refine rC ?_;refine nS ?_;refine wF ?_;refine kS ?_;refine qR ?_;refine rC ?_;refine reg_new (range_str tab_ok rfl rfl) rfl ?_;refine nS ?_;refine wc_block ?_
  refine wc_inv (fun i : Nat => ⟨[(11, .ptr 66 []), (2, .ptr 65 []), (0, .d (strD s))], [(65, some (.box 52 (.d (.vec 32 1 encU8 (uX 32 s i))))), (66, some (.si (mkS s) i))], 72, Tryz.f119.ntmps, 64⟩) (fun i => i ≤ j) (fun i => s.length - i) 0 [(65, some 64), (66, some 112)] (Nat.zero_le _)
    (.of rfl rfl rfl rfl rfl ⟨⟨_, rfl, .refl _⟩, rfl, ⟨_, rfl, .refl _⟩, rfl, ⟨_, rfl, .refl _⟩, rfl, trivial⟩ ⟨⟨rfl, rfl, _, rfl, RowLe.of_eq (by rw [uX_zero]; rfl)⟩, ⟨rfl, rfl, _, rfl, .refl _⟩, trivial⟩) ?_
  intro i hi
  refine wc_of ?_
  have hlt : i < s.length := by omega
  by_cases hij : i < j
  · obtain ⟨c, hc⟩ : ∃ c, s[i]? = some c := ⟨_, List.getElem?_eq_getElem hlt⟩
    have hib : FnIs Tryz.prog 143 [.d (strD hexD), .int .u8 c.toNat] [] (.int .i64 (Lib.indexByte hexD c)) [] := by
      have := ib_is (l := hexD) (c := (c.toNat : Int))
      rwa [show ((c.toNat : Int)).toNat.toUInt8 = c by simp] at this
    have hneg : ¬ Lib.indexByte hexD c < 0 := by have := hbef i hij c hc; omega
    have hd : decide (Lib.indexByte hexD c < 0) = false := decide_eq_false hneg
    obtain ⟨x, hx1, hx2, hx3⟩ := uX_step hc hs
    replace hx2 : (uX 32 s i)[(((i / 2 : Nat) : Int)).toNat]? = some (x : Int) := by rw [Int.toNat_natCast]; exact hx2
    have hn16 := nibV_lt c
    have hwi : IntKind.i64.wrap ((i / 2 : Nat) : Int) = ((i / 2 : Nat) : Int) := wrap_i64 (by omega) (by omega)
    have hw1 : IntKind.u8.wrap ((x : Int) * 16) = ((x * 16 : Nat) : Int) := wrap_u8n (a := x * 16) (by omega)
    have hw2 : IntKind.u8.wrap (Lib.indexByte hexD c) = (nibV c : Int) := by
      rw [show Lib.indexByte hexD c = (nibV c : Int) by unfold nibV; omega]
      exact wrap_u8n (by omega)
    have hw3 : IntKind.u8.wrap (((x * 16 : Nat) : Int) + (nibV c : Int)) = ((x * 16 + nibV c : Nat) : Int) := wrap_u8n (a := x * 16 + nibV c) (by omega)
    have hlow := decode_low (i := i) hc (hexD_low (by omega))
    refine sR ?_;refine reg_new (next_str rfl rfl (by omega)) rfl ?_;refine rC ?_;refine nQ ?_;refine wV ?_;refine kS ?_;refine wc_block ?_;refine sR ?_;iterate 2 refine rC ?_
    refine nR ?_;iterate 2 refine rC ?_
    refine rQ (index_s (l := s) (m := i) tab_ok rfl rfl rfl hc) ?_;refine rQ (call_r hib rfl rfl (arg_e (arg_e arg_nil)) (.inl rfl) (fun _ => rfl)) ?_;refine rC ?_;refine nQ ?_
    refine sR ?_;iterate 2 refine rC ?_
    refine nS ?_;refine wF ?_;refine kS ?_;refine wc_region ?_;refine rC ?_;refine rQ (quo_nat (a := i) (b := 2) tab_ok rfl rfl rfl (by decide) hwi) ?_;refine rC ?_
    refine rQ (quo_nat (a := i) (b := 2) tab_ok rfl rfl rfl (by decide) hwi) ?_;refine rQ (step_C tab_ok (fun K hk => ⟨by omega, by omega, hk⟩)) ?_;refine rQ (load_box tab_ok rfl rfl ⟨_, ⟨rfl, _, hx2, rfl⟩, rfl⟩ rfl) ?_
    refine rQ (mul_int (m := ((x * 16 : Nat) : Int)) tab_ok rfl rfl hw1) ?_;refine rC ?_;refine rQ (conv_int (m := (nibV c : Int)) tab_ok rfl rfl rfl hw2) ?_;refine rQ (add_int (m := ((x * 16 + nibV c : Nat) : Int)) tab_ok rfl rfl hw3) ?_
    refine rQ (step_C tab_ok (fun K hk => ⟨by omega, by omega, hk⟩)) ?_;refine reg_store (store_row tab_ok rfl rfl rfl ⟨_, ⟨_, ⟨rfl, (x : Int), ((x * 16 + nibV c : Nat) : Int), hx2, ⟨rfl, rfl, rfl⟩, rfl⟩, rfl⟩, rfl⟩ rfl) ?_
    refine reg_nil ?_;refine blk_n ?_
    exact loop_n (i + 1) [] hij (by omega) (.of rfl rfl rfl rfl rfl ⟨⟨_, rfl, .refl _⟩, rfl, ⟨_, rfl, .refl _⟩, rfl, ⟨_, rfl, .refl _⟩, rfl, trivial⟩ ⟨⟨rfl, rfl, _, rfl, RowLe.of_eq (congrArg (fun l => Row.box 52 (.d (.vec 32 1 encU8 l))) hx3)⟩, ⟨rfl, rfl, _, rfl, RowLe.of_eq (by rw [hlow]; rfl)⟩, trivial⟩)
  · have he : i = j := by omega
    subst he
    have hc := hj
    obtain ⟨c, rfl⟩ : ∃ c, cj = c := ⟨_, rfl⟩
    have hib : FnIs Tryz.prog 143 [.d (strD hexD), .int .u8 cj.toNat] [] (.int .i64 (Lib.indexByte hexD cj)) [] := by
      have := ib_is (l := hexD) (c := (cj.toNat : Int))
      rwa [show ((cj.toNat : Int)).toNat.toUInt8 = cj by simp] at this
    have hd : decide (Lib.indexByte hexD cj < 0) = true := decide_eq_true hcj
    rw [← ht]
    refine sR ?_;refine reg_new (next_str rfl rfl (by omega)) rfl ?_;refine rC ?_;refine nQ ?_;refine wV ?_;refine kS ?_;refine wc_block ?_;refine sR ?_;iterate 2 refine rC ?_
    refine nR ?_;iterate 2 refine rC ?_
    refine rQ (index_s (l := s) (m := i) tab_ok rfl rfl rfl hc) ?_;refine rQ (call_r hib rfl rfl (arg_e (arg_e arg_nil)) (.inl rfl) (fun _ => rfl)) ?_;refine rC ?_;refine nQ ?_
    refine sR ?_;iterate 2 refine rC ?_
    refine nS ?_;refine wT ?_;refine sR ?_;refine rQ iM ?_;refine rW ?_;refine rC ?_;refine nS ?_;refine wc_ret ?_;refine seq_r ?_;refine blk_r ?_;refine loop_r ?_;refine blk_r ?_
    refine seq_r ?_
    exact ⟨trivial, _, rfl, [], lf⟩
theorem block_none (s : List UInt8) (h : blockP s = none) (hL : s.length ≤ 9223372036854775807) : ∃ v : List UInt8, FnIs Tryz.prog 119 [.d (strD s)] [] (blkR v false) [] := by
  by_cases hs : s.length = 64
  · by_cases hall : ∀ c ∈ s, 0 ≤ Lib.indexByte hexD c
    · obtain ⟨t, h1, h2⟩ := pairs_some s (by omega) hall
      rw [blockP, if_pos hs, h1] at h
      cases h
    · obtain ⟨j, c, h1, h2, h3⟩ := first_bad s hall
      obtain ⟨t, ht⟩ := byI_uX 32 s j
      exact ⟨t, block_bad s hs j c h1 h2 h3 t ht⟩
  · exact ⟨zBk, block_short s hs hL⟩
theorem block_some (s t : List UInt8) (h : blockP s = some t) : FnIs Tryz.prog 119 [.d (strD s)] [] (blkR t true) [] := by
  unfold blockP at h
  split at h
  · rename_i hs
    have hall : ∀ c ∈ s, 0 ≤ Lib.indexByte hexD c := fun c hc => by
      by_cases hn : Lib.indexByte hexD c < 0
      · rw [pairs_bad s c hc hn] at h; cases h
      · omega
    obtain ⟨t', h1, h2⟩ := pairs_some s (by omega) hall
    rw [h1] at h
    cases h
    exact block_ok s hs hall _ h2
  · cases h
end Go.Proofs.YtmojbghcngdkpaaGreatDoor

namespace Go.Proofs.YtmojbghcngdkpaaGreatDoor
open Go.Eng Go.Plain
set_option maxHeartbeats 8000000
set_option maxRecDepth 20000
attribute [local irreducible] WC RegS RegD SeqQ BlkQ ScoQ RegK CutK Sat SatN FnIs LoopQ StepIs OpIs
def textE (h : List HEv) : List UInt8 := h.flatMap fun x => lineE x ++ [10]
theorem textE_take {h : List HEv} {i : Nat} {x : HEv} (hx : h[i]? = some x) : textE (h.take (i + 1)) = textE (h.take i) ++ (lineE x ++ [10]) := by
  rw [List.take_add_one, hx]; simp [textE]
theorem textE_le (h : List HEv) (i : Nat) : (textE (h.take i)).length ≤ (textE h).length := by
  have := congrArg (fun l => (textE l).length) (List.take_append_drop i h)
  simp only [textE, List.flatMap_append, List.length_append] at this
  unfold textE
  omega
theorem htext_some (h : List HEv) (hne : h ≠ []) (hL : h.length ≤ 1000000) (hc0 : (chkH h).2 = 0) (hok : ∀ x ∈ h, x.Ok ∧ x.op.data.length ≤ 64) (hT : (textE h).length ≤ 1048576) : FnIs Tryz.prog 24 [.d (encH h)] [] (.tup (.acons (.d (strD (textE h))) (.acons (.d (i6 0)) .anil))) [] := by
  have hh : h.length ≤ 9223372036854775807 := by omega
  have d0 : (!decide ((chkH h).2 = 0)) = false := by rw [decide_eq_true hc0]; rfl
  refine fnIs_of tab_ok Tryz.func24 rfl rfl rfl ?_;refine sR ?_;iterate 2 refine rC ?_
  refine nQ ?_;refine sR ?_;refine rC ?_;refine rQ (call_r (hcheck_is h hh) rfl rfl (arg_e arg_nil) (.inl rfl) (fun _ => rfl)) ?_;iterate 5 refine rC ?_
  refine nR ?_;iterate 2 refine rC ?_
  refine nS ?_;refine wF ?_;refine kS ?_;refine sR ?_;refine rN ?_;refine nQ ?_;refine sR ?_;refine rC ?_;refine rQ iE ?_;refine rC ?_;refine nS ?_;refine wc_block ?_
  refine wc_inv (fun i : Nat => ⟨[(19, .int .i64 i), (18, .int .i64 h.length), (17, .d (encH h)), (6, .ptr 65 [])], [(65, some (bldRow (Nat.beq i 0) 65 66 (textE (h.take i)).length)), (66, some (rowT (textE (h.take i))))], 72, Tryz.f24.ntmps, 64⟩) (fun i => i ≤ h.length) (fun i => h.length - i) 0 [(65, some _), (66, none)] (Nat.zero_le _)
    (.of rfl rfl rfl rfl rfl ⟨⟨_, rfl, .refl _⟩, rfl, ⟨_, rfl, .refl _⟩, rfl, ⟨_, rfl, .refl _⟩, rfl, ⟨_, rfl, .refl _⟩, rfl, trivial⟩ ⟨⟨rfl, rfl, _, rfl, RowLe.split2⟩, ⟨rfl, rfl, rfl⟩, trivial⟩) ?_
  intro i hi
  refine wc_of ?_;refine sR ?_;refine rC ?_;refine nQ ?_
  refine wc_cond rfl (fun h3 => ?_) (fun h3 => ?_)
  · have hlt : i < h.length := by have := of_decide_eq_true h3; omega
    obtain ⟨x, hx⟩ : ∃ x, h[i]? = some x := ⟨_, List.getElem?_eq_getElem hlt⟩
    have hx' : h[((i : Int)).toNat]? = some x := by rw [Int.toNat_natCast]; exact hx
    obtain ⟨hokx, hdx⟩ := hok x (List.mem_of_getElem? hx)
    have hs0 : 0 < (lineE x ++ [10]).length := by simp
    have hgo := textE_take hx
    have hle := textE_le h (i + 1)
    rw [hgo, List.length_append] at hle
    have hp1 : (textE (h.take i)).length + (lineE x ++ [10]).length ≤ 1048576 := by omega
    have hll : (lineE x).length + 1 ≤ 1048576 := by rw [List.length_append] at hp1; simp at hp1; omega
    have hl2 : (textE (h.take i)).length + (lineE x ++ [10]).length = (textE (h.take (i + 1))).length := by rw [hgo]; simp only [List.length_append]
    refine kS ?_;refine wc_seq ?_;refine wc_block ?_;refine sR ?_;refine rQ (index_arr tab_ok rfl rfl rfl rfl rfl (by omega) hx') ?_;refine rQ iL ?_;refine rN ?_;refine rW ?_
    refine nS ?_;refine wc_region ?_;refine rQ iM ?_;refine rQ (call_r (hline_is x hokx hdx) rfl rfl (arg_e arg_nil) (.inl rfl) (fun _ => rfl)) ?_
    refine rQ (add_str (a := lineE x) (b := [10]) rfl rfl (by simp; omega) rfl) ?_
    refine reg_do rfl (call_h [(0, some 65), (1, some 66)] (writestr_is (Nat.beq i 0) (textE (h.take i)) (lineE x ++ [10]) (textE (h.take i)).length rfl hs0 hp1) rfl rfl rfl (arg_ptr rfl rfl (arg_e arg_nil)) ⟨⟨rfl, (by cases Nat.beq i 0 <;> rfl), _, _, rfl, rfl, (by cases Nat.beq i 0 <;> exact .refl _)⟩, ⟨rfl, rfl, _, _, rfl, rfl, .refl _⟩, trivial⟩ rfl rfl (.inl rfl) rfl rfl) rfl rfl ?_
    refine reg_nil ?_;refine blk_n ?_;refine seq_n ?_;refine wc_region ?_;refine rQ iD ?_;refine rC ?_;refine reg_nil ?_
    exact loop_n (i + 1) [(66, some _)] hlt (by omega) (.of rfl rfl rfl rfl rfl ⟨⟨_, rfl, .refl _⟩, rfl, ⟨_, rfl, .refl _⟩, rfl, ⟨_, rfl, .refl _⟩, rfl, ⟨_, rfl, .refl _⟩, rfl, trivial⟩ ⟨⟨rfl, rfl, _, rfl, RowLe.of_eq (congrArg (bldRow false 65 _) hl2)⟩, ⟨rfl, rfl, _, rfl, RowLe.of_eq (congrArg rowT hgo.symm)⟩, trivial⟩)
  · have he : i = h.length := by have := of_decide_eq_false h3; omega
    subst he
    have hpos := List.length_pos_iff.2 hne
    have hnn : textE h ≠ [] := fun e => by
      obtain ⟨x, l, rfl⟩ := List.exists_cons_of_ne_nil hne
      simp [textE] at e
    have hbz : Nat.beq h.length 0 = false := by
      cases hz : Nat.beq h.length 0 with
      | false => rfl
      | true => have := Nat.eq_of_beq_eq_true hz; omega
    rw [hbz, List.take_length]
    refine wc_exit ?_;refine seq_x ?_;refine loop_x ?_;refine blk_x ?_;refine seq_n ?_;refine sR ?_;refine reg_new2 (call_h [(0, some 65), (1, some 66)] (bstring_is (textE h) (textE h).length rfl hnn hT) rfl rfl rfl (arg_ptr rfl rfl arg_nil) ⟨⟨rfl, rfl, _, _, rfl, rfl, .refl _⟩, ⟨rfl, rfl, _, _, rfl, rfl, .refl _⟩, trivial⟩ rfl rfl (.inl rfl) rfl rfl) rfl ?_
    iterate 2 refine rC ?_
    refine nS ?_;refine wc_ret ?_
    exact ⟨trivial, [], lf⟩
theorem htext_zero : FnIs Tryz.prog 24 [.d (encH [])] [] (.tup (.acons (.d (strD [])) (.acons (.d (i6 0)) .anil))) [] := by
  have hC := hcheck_is [] (by decide)
  rw [show chkH [] = (0, 0) from rfl] at hC
  refine fnIs_of tab_ok Tryz.func24 rfl rfl rfl ?_;refine sR ?_;iterate 2 refine rC ?_
  refine nQ ?_;refine sR ?_;refine rC ?_;refine rQ (call_r hC rfl rfl (arg_e arg_nil) (.inl rfl) (fun _ => rfl)) ?_;iterate 5 refine rC ?_
  refine nR ?_;iterate 2 refine rC ?_
  refine nS ?_;refine wG ?_;refine kS ?_;refine sR ?_;refine rN ?_;refine nQ ?_;refine sR ?_;refine rC ?_;refine rQ iE ?_;refine rC ?_;refine nS ?_;refine wc_block ?_
  refine wc_once ?_;refine sR ?_;refine rC ?_;refine nQ ?_;refine wG ?_;refine wc_exit ?_;refine seq_x ?_;refine loop_x ?_;refine blk_x ?_;refine seq_n ?_;refine sR ?_
  refine reg_new (call_h [(0, some _)] bstring_zero rfl rfl rfl (arg_ptr rfl rfl arg_nil) ⟨⟨rfl, rfl, _, _, rfl, rfl, .refl _⟩, trivial⟩ rfl rfl (.inl rfl) rfl rfl) rfl ?_
  iterate 2 refine rC ?_
  refine nS ?_;refine wc_ret ?_
  exact ⟨trivial, [], lf⟩
theorem htext_bad (h : List HEv) (hh : h.length ≤ 9223372036854775807) (h0 : (chkH h).2 ≠ 0) : FnIs Tryz.prog 24 [.d (encH h)] [] (.tup (.acons (.d (strD [])) (.acons (.int .i64 (chkH h).2) .anil))) [] := by
  have d0 : (!decide ((chkH h).2 = 0)) = true := by rw [decide_eq_false h0]; rfl
  have hC := hcheck_is h hh
  refine fnIs_of tab_ok Tryz.func24 rfl rfl rfl ?_;refine sR ?_;iterate 2 refine rC ?_
  refine nQ ?_;refine sR ?_;refine rC ?_;refine rQ (call_r hC rfl rfl (arg_e arg_nil) (.inl rfl) (fun _ => rfl)) ?_;iterate 5 refine rC ?_
  refine nR ?_;iterate 2 refine rC ?_
  refine nS ?_;refine wT ?_;refine sR ?_;iterate 3 refine rC ?_
  refine nS ?_;refine wc_ret ?_;refine seq_r ?_
  exact ⟨trivial, [], lf⟩
theorem htext_is (h : List HEv) (hh : h.length ≤ 9223372036854775807) (hL : (chkH h).2 = 0 → h.length ≤ 1000000) (hok : (chkH h).2 = 0 → ∀ x ∈ h, x.Ok ∧ x.op.data.length ≤ 64) (hT : (chkH h).2 = 0 → (textE h).length ≤ 1048576) : FnIs Tryz.prog 24 [.d (encH h)] [] (.tup (.acons (.d (strD (if (chkH h).2 = 0 then textE h else []))) (.acons (.int .i64 (chkH h).2) .anil))) [] := by
  by_cases h0 : (chkH h).2 = 0
  · rw [if_pos h0, h0]
    by_cases hn : h = []
    · subst hn; exact htext_zero
    · exact htext_some h hn (hL h0) h0 (hok h0) (hT h0)
  · rw [if_neg h0]
    exact htext_bad h hh h0
end Go.Proofs.YtmojbghcngdkpaaGreatDoor

namespace Go.Proofs.YtmojbghcngdkpaaGreatDoor
open Go.Eng Go.Plain
set_option maxHeartbeats 8000000
set_option maxRecDepth 20000
attribute [local irreducible] WC RegS RegD SeqQ BlkQ ScoQ RegK CutK Sat SatN FnIs LoopQ StepIs OpIs
abbrev evR2 (y : HEv) (b : Bool) : AV := .tup (.acons (.d (encEv y)) (.acons (.bool b) .anil))
theorem ev_le (k c e : Int) (b : Bool) : AVLe (.tup (.acons (.d (.cons (u8s k) (.cons (i6 c) (.cons zPOp (.cons (.vec 32 1 encU8 (List.replicate 32 0)) (.cons (i6 e) .nil)))))) (.acons (.bool b) .anil))) (evR2 ⟨k, c, zOp, zBk, e⟩ b) := AVLe.tup1 (AVLe.d (zev_le k c e) rfl) rfl
theorem ev_le2 (k c e : Int) (v : List UInt8) (b : Bool) : AVLe (.tup (.acons (.d (.cons (u8s k) (.cons (i6 c) (.cons zPOp (.cons (encBk v) (.cons (i6 e) .nil)))))) (.acons (.bool b) .anil))) (evR2 ⟨k, c, zOp, v, e⟩ b) := by
  refine AVLe.tup1 (AVLe.d ?_ rfl) rfl
  rintro w X cs ⟨c1, r1, rfl, h1, c2, r2, rfl, h2, c3, r3, rfl, h3, h4⟩
  exact ⟨c1, _, rfl, h1, c2, _, rfl, h2, c3, _, rfl, zop_le _ _ _ h3, h4⟩
theorem event_crash (s : List UInt8) (hs : s = sCrash) : FnIs Tryz.prog 73 [.d (strD s)] [] (evR2 crashE true) [] := by
  have d0 : decide (s = sCrash) = true := decide_eq_true hs
  refine fnIs_of tab_ok Tryz.func73 rfl rfl rfl ?_;refine sR ?_;refine rN ?_;refine rC ?_;refine nQ ?_;refine sR ?_;refine rC ?_;refine rQ (eql_s (a := s) (b := sCrash) tab_ok rfl rfl rfl) ?_
  refine nS ?_;refine wT ?_;refine sR ?_;refine rQ iS ?_;refine rW ?_;refine rC ?_;refine nS ?_;refine wc_ret ?_;refine seq_r ?_
  exact ⟨trivial, _, rfl, [], .of rfl rfl rfl rfl rfl ⟨⟨_, rfl, ev_le 3 0 0 true⟩, rfl, trivial⟩ trivial⟩
structure HeadIs (s kind r1 cl rest : List UInt8) (b1 b2 ok : Bool) (n : Int) : Prop where
  c1 : FnIs Tryz.prog 72 [.d (strD s), .d (strD [32])] [] (.tup (.acons (.d (strD kind)) (.acons (.d (strD r1)) (.acons (.bool b1) .anil)))) []
  c2 : FnIs Tryz.prog 72 [.d (strD r1), .d (strD [32])] [] (.tup (.acons (.d (strD cl)) (.acons (.d (strD rest)) (.acons (.bool b2) .anil)))) []
  a : FnIs Tryz.prog 118 [.d (strD cl)] [] (.tup (.acons (.int .i64 n) (.acons (erA ok) .anil))) []
theorem event_other (s kind r1 cl rest : List UInt8) (b1 b2 ok : Bool) (n : Int) (H : HeadIs s kind r1 cl rest b1 b2 ok n) (hs : s ≠ sCrash) (h1 : kind ≠ sInvoke) (h2 : kind ≠ sReturn) : FnIs Tryz.prog 73 [.d (strD s)] [] (evR2 ⟨0, n, zOp, zBk, 0⟩ false) [] := by
  have d0 : decide (s = sCrash) = false := decide_eq_false hs
  have d1 : decide (kind = sInvoke) = false := decide_eq_false h1
  have d2 : decide (kind = sReturn) = false := decide_eq_false h2
  obtain ⟨hc1, hc2, ha⟩ := H
  refine fnIs_of tab_ok Tryz.func73 rfl rfl rfl ?_
  cases ok with
  | false =>
    refine sR ?_;refine rN ?_;refine rC ?_;refine nQ ?_;refine sR ?_;refine rC ?_;refine rQ (eql_s (a := s) (b := sCrash) tab_ok rfl rfl rfl) ?_;refine nS ?_;refine wF ?_
    refine kS ?_;refine sR ?_;refine rC ?_;refine rQ (call_r hc1 rfl rfl (arg_e (arg_e arg_nil)) (.inl rfl) (fun _ => rfl)) ?_;iterate 7 refine rC ?_
    refine nR ?_;refine rC ?_;refine rQ (call_r hc2 rfl rfl (arg_e (arg_e arg_nil)) (.inl rfl) (fun _ => rfl)) ?_;iterate 7 refine rC ?_
    refine nR ?_;refine rC ?_;refine rQ (call_r ha rfl rfl (arg_e arg_nil) (.inl rfl) (fun _ => rfl)) ?_;iterate 5 refine rC ?_
    refine nR ?_;iterate 2 refine rC ?_
    refine rX ?_;refine nQ ?_;refine sR ?_;refine rC ?_;refine nS ?_;refine wc_block ?_;refine sR ?_;refine rQ (eql_s (a := kind) (b := sInvoke) tab_ok rfl rfl rfl) ?_
    refine rC ?_;refine nS ?_;refine wF ?_;refine sR ?_;refine rQ (eql_s (a := kind) (b := sReturn) tab_ok rfl rfl rfl) ?_;refine rC ?_;refine nS ?_;refine wF ?_;refine sR ?_
    refine rQ iM ?_;refine rW ?_;refine rC ?_;refine nS ?_;refine wc_ret ?_;refine blk_r ?_;refine seq_r ?_
    exact ⟨trivial, _, rfl, [], .of rfl rfl rfl rfl rfl ⟨⟨_, rfl, ev_le 0 n 0 false⟩, rfl, trivial⟩ trivial⟩
  | true =>
    refine sR ?_;refine rN ?_;refine rC ?_;refine nQ ?_;refine sR ?_;refine rC ?_;refine rQ (eql_s (a := s) (b := sCrash) tab_ok rfl rfl rfl) ?_;refine nS ?_;refine wF ?_
    refine kS ?_;refine sR ?_;refine rC ?_;refine rQ (call_r hc1 rfl rfl (arg_e (arg_e arg_nil)) (.inl rfl) (fun _ => rfl)) ?_;iterate 7 refine rC ?_
    refine nR ?_;refine rC ?_;refine rQ (call_r hc2 rfl rfl (arg_e (arg_e arg_nil)) (.inl rfl) (fun _ => rfl)) ?_;iterate 7 refine rC ?_
    refine nR ?_;refine rC ?_;refine rQ (call_r ha rfl rfl (arg_e arg_nil) (.inl rfl) (fun _ => rfl)) ?_;iterate 5 refine rC ?_
    refine nR ?_;iterate 2 refine rC ?_
    refine rX ?_;refine nQ ?_;refine sR ?_;refine rC ?_;refine nS ?_;refine wc_block ?_;refine sR ?_;refine rQ (eql_s (a := kind) (b := sInvoke) tab_ok rfl rfl rfl) ?_
    refine rC ?_;refine nS ?_;refine wF ?_;refine sR ?_;refine rQ (eql_s (a := kind) (b := sReturn) tab_ok rfl rfl rfl) ?_;refine rC ?_;refine nS ?_;refine wF ?_;refine sR ?_
    refine rQ iM ?_;refine rW ?_;refine rC ?_;refine nS ?_;refine wc_ret ?_;refine blk_r ?_;refine seq_r ?_
    exact ⟨trivial, _, rfl, [], .of rfl rfl rfl rfl rfl ⟨⟨_, rfl, ev_le 0 n 0 false⟩, rfl, trivial⟩ trivial⟩
theorem event_inv_no (s kind r1 cl rest : List UInt8) (b1 b2 ok : Bool) (n : Int) (H : HeadIs s kind r1 cl rest b1 b2 ok n) (hs : s ≠ sCrash) (h1 : kind = sInvoke) (hrl : rest.length ≤ 1048568) (l : List (List POp)) (k : Nat) (e : Int)
    (hp : FnIs Tryz.prog 47 [.d (strD (sClient ++ [10] ++ rest ++ [10]))] [] (parR l k e) []) (hno : ¬ (ok = true ∧ e = 0 ∧ l.length = 1 ∧ ∀ p, l[0]? = some p → p.length = 1)) : FnIs Tryz.prog 73 [.d (strD s)] [] (evR2 ⟨1, n, zOp, zBk, 0⟩ false) [] := by
  have d0 : decide (s = sCrash) = false := decide_eq_false hs
  have d1 : decide (kind = sInvoke) = true := decide_eq_true h1
  obtain ⟨hc1, hc2, ha⟩ := H
  refine fnIs_of tab_ok Tryz.func73 rfl rfl rfl ?_
  cases ok with
  | false =>
    refine sR ?_;refine rN ?_;refine rC ?_;refine nQ ?_;refine sR ?_;refine rC ?_;refine rQ (eql_s (a := s) (b := sCrash) tab_ok rfl rfl rfl) ?_;refine nS ?_;refine wF ?_
    refine kS ?_;refine sR ?_;refine rC ?_;refine rQ (call_r hc1 rfl rfl (arg_e (arg_e arg_nil)) (.inl rfl) (fun _ => rfl)) ?_;iterate 7 refine rC ?_
    refine nR ?_;refine rC ?_;refine rQ (call_r hc2 rfl rfl (arg_e (arg_e arg_nil)) (.inl rfl) (fun _ => rfl)) ?_;iterate 7 refine rC ?_
    refine nR ?_;refine rC ?_;refine rQ (call_r ha rfl rfl (arg_e arg_nil) (.inl rfl) (fun _ => rfl)) ?_;iterate 5 refine rC ?_
    refine nR ?_;iterate 2 refine rC ?_
    refine rX ?_;refine nQ ?_;refine sR ?_;refine rC ?_;refine nS ?_;refine wc_block ?_;refine sR ?_;refine rQ (eql_s (a := kind) (b := sInvoke) tab_ok rfl rfl rfl) ?_
    refine rC ?_;refine nS ?_;refine wT ?_;refine sR ?_;refine rC ?_;refine rX ?_;refine nR ?_;refine rC ?_
    refine rQ (add_str (a := sClient ++ [10]) (b := rest) rfl rfl (by simp [sClient]; omega) rfl) ?_
    refine rQ (add_str (a := sClient ++ [10] ++ rest) (b := [10]) rfl rfl (by simp [sClient]; omega) rfl) ?_
    refine rQ (call_r hp rfl rfl (arg_e arg_nil) (.inl rfl) (fun _ => rfl)) ?_;iterate 7 refine rC ?_
    refine nQ ?_;refine sR ?_;refine rC ?_;refine rQ (neq_er Tryz.underlying122 rfl) ?_;refine rC ?_;iterate 2 refine rT ?_
    refine rQ iU ?_;refine rC ?_;iterate 3 refine rT ?_
    refine rQ iU ?_;refine rC ?_;iterate 5 refine rT ?_
    refine rQ iU ?_;refine nS ?_;refine wV ?_;refine sR ?_;refine rQ iM ?_;refine rW ?_;refine rC ?_;refine nS ?_;refine wc_ret ?_;refine seq_r ?_;refine blk_r ?_;refine seq_r ?_
    exact ⟨trivial, _, rfl, [], .of rfl rfl rfl rfl rfl ⟨⟨_, rfl, ev_le 1 n 0 false⟩, rfl, trivial⟩ trivial⟩
  | true =>
    by_cases he : e = 0
    · have f1 : (!decide (e = 0)) = false := by rw [decide_eq_true he]; rfl
      by_cases hl : l.length = 1
      · have f2 : (!decide ((l.length : Int) = 1)) = false := by rw [decide_eq_true (by omega)]; rfl
        obtain ⟨p, hpl⟩ : ∃ p, l[0]? = some p := ⟨_, List.getElem?_eq_getElem (by omega)⟩
        have hpl' : l[((0 : Int)).toNat]? = some p := hpl
        have f3 : (!decide ((p.length : Int) = 1)) = true := by
          rw [decide_eq_false]
          · rfl
          · intro e1
            exact hno ⟨rfl, he, hl, fun q hq => by rw [hpl] at hq; cases hq; omega⟩
        refine sR ?_;refine rN ?_;refine rC ?_;refine nQ ?_;refine sR ?_;refine rC ?_;refine rQ (eql_s (a := s) (b := sCrash) tab_ok rfl rfl rfl) ?_;refine nS ?_;refine wF ?_
        refine kS ?_;refine sR ?_;refine rC ?_;refine rQ (call_r hc1 rfl rfl (arg_e (arg_e arg_nil)) (.inl rfl) (fun _ => rfl)) ?_;iterate 7 refine rC ?_
        refine nR ?_;refine rC ?_;refine rQ (call_r hc2 rfl rfl (arg_e (arg_e arg_nil)) (.inl rfl) (fun _ => rfl)) ?_;iterate 7 refine rC ?_
        refine nR ?_;refine rC ?_;refine rQ (call_r ha rfl rfl (arg_e arg_nil) (.inl rfl) (fun _ => rfl)) ?_;iterate 5 refine rC ?_
        refine nR ?_;iterate 2 refine rC ?_
        refine rX ?_;refine nQ ?_;refine sR ?_;refine rC ?_;refine nS ?_;refine wc_block ?_;refine sR ?_;refine rQ (eql_s (a := kind) (b := sInvoke) tab_ok rfl rfl rfl) ?_
        refine rC ?_;refine nS ?_;refine wT ?_;refine sR ?_;refine rC ?_;refine rX ?_;refine nR ?_;refine rC ?_
        refine rQ (add_str (a := sClient ++ [10]) (b := rest) rfl rfl (by simp [sClient]; omega) rfl) ?_
        refine rQ (add_str (a := sClient ++ [10] ++ rest) (b := [10]) rfl rfl (by simp [sClient]; omega) rfl) ?_
        refine rQ (call_r hp rfl rfl (arg_e arg_nil) (.inl rfl) (fun _ => rfl)) ?_;iterate 7 refine rC ?_
        refine nQ ?_;refine sR ?_;refine rC ?_;refine rQ (neq_nilI Tryz.underlying122 rfl) ?_;refine rC ?_;refine rP ?_;refine rC ?_;refine rP ?_;refine rC ?_;refine rQ iG ?_
        refine rC ?_;refine rO ?_;refine rC ?_;refine rO ?_;refine rQ (len_arx tab_ok rfl rfl) ?_;refine rO ?_;refine rC ?_;refine rQ iF ?_;refine rC ?_;refine rO ?_;refine rC ?_
        refine rO ?_;refine rQ (index_arx tab_ok rfl rfl rfl rfl rfl (by omega) (by assumption)) ?_;refine rO ?_;refine rQ iL ?_;refine rO ?_;refine rQ (len_arx tab_ok rfl rfl) ?_
        refine rO ?_;refine rC ?_;refine rQ iF ?_;refine nS ?_;refine wT ?_;refine sR ?_;refine rQ iM ?_;refine rW ?_;refine rC ?_;refine nS ?_;refine wc_ret ?_;refine seq_r ?_
        refine blk_r ?_;refine seq_r ?_
        exact ⟨trivial, _, rfl, [], .of rfl rfl rfl rfl rfl ⟨⟨_, rfl, ev_le 1 n 0 false⟩, rfl, trivial⟩ trivial⟩
      · have f2 : (!decide ((l.length : Int) = 1)) = true := by rw [decide_eq_false (by omega)]; rfl
        refine sR ?_;refine rN ?_;refine rC ?_;refine nQ ?_;refine sR ?_;refine rC ?_;refine rQ (eql_s (a := s) (b := sCrash) tab_ok rfl rfl rfl) ?_;refine nS ?_;refine wF ?_
        refine kS ?_;refine sR ?_;refine rC ?_;refine rQ (call_r hc1 rfl rfl (arg_e (arg_e arg_nil)) (.inl rfl) (fun _ => rfl)) ?_;iterate 7 refine rC ?_
        refine nR ?_;refine rC ?_;refine rQ (call_r hc2 rfl rfl (arg_e (arg_e arg_nil)) (.inl rfl) (fun _ => rfl)) ?_;iterate 7 refine rC ?_
        refine nR ?_;refine rC ?_;refine rQ (call_r ha rfl rfl (arg_e arg_nil) (.inl rfl) (fun _ => rfl)) ?_;iterate 5 refine rC ?_
        refine nR ?_;iterate 2 refine rC ?_
        refine rX ?_;refine nQ ?_;refine sR ?_;refine rC ?_;refine nS ?_;refine wc_block ?_;refine sR ?_;refine rQ (eql_s (a := kind) (b := sInvoke) tab_ok rfl rfl rfl) ?_
        refine rC ?_;refine nS ?_;refine wT ?_;refine sR ?_;refine rC ?_;refine rX ?_;refine nR ?_;refine rC ?_
        refine rQ (add_str (a := sClient ++ [10]) (b := rest) rfl rfl (by simp [sClient]; omega) rfl) ?_
        refine rQ (add_str (a := sClient ++ [10] ++ rest) (b := [10]) rfl rfl (by simp [sClient]; omega) rfl) ?_
        refine rQ (call_r hp rfl rfl (arg_e arg_nil) (.inl rfl) (fun _ => rfl)) ?_;iterate 7 refine rC ?_
        refine nQ ?_;refine sR ?_;refine rC ?_;refine rQ (neq_nilI Tryz.underlying122 rfl) ?_;refine rC ?_;refine rP ?_;refine rC ?_;refine rP ?_;refine rC ?_;refine rQ iG ?_
        refine rC ?_;refine rO ?_;refine rC ?_;refine rO ?_;refine rQ (len_arx tab_ok rfl rfl) ?_;refine rO ?_;refine rC ?_;refine rQ iF ?_;refine rC ?_;iterate 5 refine rS ?_
        refine rQ iT ?_;refine nS ?_;refine wV ?_;refine sR ?_;refine rQ iM ?_;refine rW ?_;refine rC ?_;refine nS ?_;refine wc_ret ?_;refine seq_r ?_;refine blk_r ?_;refine seq_r ?_
        exact ⟨trivial, _, rfl, [], .of rfl rfl rfl rfl rfl ⟨⟨_, rfl, ev_le 1 n 0 false⟩, rfl, trivial⟩ trivial⟩
    · have f1 : (!decide (e = 0)) = true := by rw [decide_eq_false he]; rfl
      refine sR ?_;refine rN ?_;refine rC ?_;refine nQ ?_;refine sR ?_;refine rC ?_;refine rQ (eql_s (a := s) (b := sCrash) tab_ok rfl rfl rfl) ?_;refine nS ?_;refine wF ?_
      refine kS ?_;refine sR ?_;refine rC ?_;refine rQ (call_r hc1 rfl rfl (arg_e (arg_e arg_nil)) (.inl rfl) (fun _ => rfl)) ?_;iterate 7 refine rC ?_
      refine nR ?_;refine rC ?_;refine rQ (call_r hc2 rfl rfl (arg_e (arg_e arg_nil)) (.inl rfl) (fun _ => rfl)) ?_;iterate 7 refine rC ?_
      refine nR ?_;refine rC ?_;refine rQ (call_r ha rfl rfl (arg_e arg_nil) (.inl rfl) (fun _ => rfl)) ?_;iterate 5 refine rC ?_
      refine nR ?_;iterate 2 refine rC ?_
      refine rX ?_;refine nQ ?_;refine sR ?_;refine rC ?_;refine nS ?_;refine wc_block ?_;refine sR ?_;refine rQ (eql_s (a := kind) (b := sInvoke) tab_ok rfl rfl rfl) ?_
      refine rC ?_;refine nS ?_;refine wT ?_;refine sR ?_;refine rC ?_;refine rX ?_;refine nR ?_;refine rC ?_
      refine rQ (add_str (a := sClient ++ [10]) (b := rest) rfl rfl (by simp [sClient]; omega) rfl) ?_
      refine rQ (add_str (a := sClient ++ [10] ++ rest) (b := [10]) rfl rfl (by simp [sClient]; omega) rfl) ?_
      refine rQ (call_r hp rfl rfl (arg_e arg_nil) (.inl rfl) (fun _ => rfl)) ?_;iterate 7 refine rC ?_
      refine nQ ?_;refine sR ?_;refine rC ?_;refine rQ (neq_nilI Tryz.underlying122 rfl) ?_;refine rC ?_;refine rP ?_;refine rC ?_;refine rP ?_;refine rC ?_;refine rQ iG ?_
      refine rC ?_;iterate 3 refine rS ?_
      refine rQ iT ?_;refine rC ?_;iterate 5 refine rT ?_
      refine rQ iU ?_;refine nS ?_;refine wV ?_;refine sR ?_;refine rQ iM ?_;refine rW ?_;refine rC ?_;refine nS ?_;refine wc_ret ?_;refine seq_r ?_;refine blk_r ?_;refine seq_r ?_
      exact ⟨trivial, _, rfl, [], .of rfl rfl rfl rfl rfl ⟨⟨_, rfl, ev_le 1 n 0 false⟩, rfl, trivial⟩ trivial⟩
theorem event_inv (s kind r1 cl rest : List UInt8) (b1 b2 : Bool) (n : Int) (H : HeadIs s kind r1 cl rest b1 b2 true n) (hs : s ≠ sCrash) (h1 : kind = sInvoke) (hrl : rest.length ≤ 1048568) (o : POp) (k : Nat)
    (hp : FnIs Tryz.prog 47 [.d (strD (sClient ++ [10] ++ rest ++ [10]))] [] (parR [[o]] k 0) []) (hok : HEv.Ok ⟨1, n, o, zBk, 0⟩) (hdo : o.data.length ≤ 64) (c : Bool) (hcq : decide (lineE ⟨1, n, o, zBk, 0⟩ = s) = c) : FnIs Tryz.prog 73 [.d (strD s)] [] (evR2 ⟨1, n, o, zBk, 0⟩ c) [] := by
  subst hcq
  have d0 : decide (s = sCrash) = false := decide_eq_false hs
  have d1 : decide (kind = sInvoke) = true := decide_eq_true h1
  have f2 : (!decide ((([[o]] : List (List POp)).length : Int) = 1)) = false := rfl
  have f3 : (!decide ((([o] : List POp).length : Int) = 1)) = false := rfl
  have hpl' : ([[o]] : List (List POp))[((0 : Int)).toNat]? = some [o] := rfl
  have hpo' : ([o] : List POp)[((0 : Int)).toNat]? = some o := rfl
  obtain ⟨hc1, hc2, ha⟩ := H
  refine fnIs_of tab_ok Tryz.func73 rfl rfl rfl ?_;refine sR ?_;refine rN ?_;refine rC ?_;refine nQ ?_;refine sR ?_;refine rC ?_;refine rQ (eql_s (a := s) (b := sCrash) tab_ok rfl rfl rfl) ?_
  refine nS ?_;refine wF ?_;refine kS ?_;refine sR ?_;refine rC ?_;refine rQ (call_r hc1 rfl rfl (arg_e (arg_e arg_nil)) (.inl rfl) (fun _ => rfl)) ?_;iterate 7 refine rC ?_
  refine nR ?_;refine rC ?_;refine rQ (call_r hc2 rfl rfl (arg_e (arg_e arg_nil)) (.inl rfl) (fun _ => rfl)) ?_;iterate 7 refine rC ?_
  refine nR ?_;refine rC ?_;refine rQ (call_r ha rfl rfl (arg_e arg_nil) (.inl rfl) (fun _ => rfl)) ?_;iterate 5 refine rC ?_
  refine nR ?_;iterate 2 refine rC ?_
  refine rX ?_;refine nQ ?_;refine sR ?_;refine rC ?_;refine nS ?_;refine wc_block ?_;refine sR ?_;refine rQ (eql_s (a := kind) (b := sInvoke) tab_ok rfl rfl rfl) ?_
  refine rC ?_;refine nS ?_;refine wT ?_;refine sR ?_;refine rC ?_;refine rX ?_;refine nR ?_;refine rC ?_
  refine rQ (add_str (a := sClient ++ [10]) (b := rest) rfl rfl (by simp [sClient]; omega) rfl) ?_
  refine rQ (add_str (a := sClient ++ [10] ++ rest) (b := [10]) rfl rfl (by simp [sClient]; omega) rfl) ?_
  refine rQ (call_r hp rfl rfl (arg_e arg_nil) (.inl rfl) (fun _ => rfl)) ?_;iterate 7 refine rC ?_
  refine nQ ?_;refine sR ?_;refine rC ?_;refine rQ (neq_nilI Tryz.underlying122 rfl) ?_;refine rC ?_;refine rP ?_;refine rC ?_;refine rP ?_;refine rC ?_;refine rQ iG ?_
  refine rC ?_;refine rP ?_;refine rC ?_;refine rP ?_;refine rQ (len_arx tab_ok rfl rfl) ?_;refine rP ?_;refine rC ?_;refine rQ iG ?_;refine rC ?_;refine rP ?_;refine rC ?_
  refine rP ?_;refine rQ (index_arx tab_ok rfl rfl rfl rfl rfl (by omega) (by assumption)) ?_;refine rP ?_;refine rQ iL ?_;refine rP ?_;refine rQ (len_arx tab_ok rfl rfl) ?_
  refine rP ?_;refine rC ?_;refine rQ iG ?_;refine nS ?_;refine wG ?_;refine kS ?_;refine wc_region ?_;refine rC ?_;refine rQ (index_arx tab_ok rfl rfl rfl rfl rfl (by omega) (by assumption)) ?_
  refine rQ iL ?_;refine rQ (index_arx tab_ok rfl rfl rfl rfl rfl (by omega) (by assumption)) ?_;refine rQ iL ?_;refine rC ?_;refine rX ?_;refine reg_nil ?_;refine blk_n ?_
  refine seq_n ?_;refine wc_seq ?_;refine wc_draw (by kernel_rfl) ?_;refine dQ [2] [64] iM ?_;refine dC [10] [] ?_;refine dQ [114] [] (eql_nilI Tryz.underlying122 rfl) ?_
  refine dC [115] [] ?_;refine dreg_onq [116, 2] [64] rfl rfl rfl rfl (load_box tab_ok rfl rfl rfl rfl) ?_;refine dreg_onq [116, 117] [] rfl rfl rfl rfl (call_r (hline_is ⟨1, n, o, zBk, 0⟩ hok hdo) rfl rfl (arg_e arg_nil) (.inl rfl) (fun _ => rfl)) ?_
  refine dreg_onq [116, 0] [] rfl rfl rfl rfl (step_C tab_ok (fun K hk => hk)) ?_;refine dreg_onq [116, 118, 119] [] rfl rfl rfl rfl (eql_s (a := lineE ⟨1, n, o, zBk, 0⟩) (b := s) tab_ok rfl rfl rfl) ?_
  refine dQ [116, 120] [] iU ?_;refine dreg_s [2, 113] [64] (store_row tab_ok rfl rfl rfl ⟨_, ⟨rfl, rfl, rfl⟩, rfl⟩ rfl) ?_;refine dC [121] [] ?_;refine dreg_end (by kernel_rfl) ?_
  refine seq_n ?_;refine wc_ret ?_
  exact ⟨trivial, _, rfl, [], lf⟩
end Go.Proofs.YtmojbghcngdkpaaGreatDoor

namespace Go.Proofs.YtmojbghcngdkpaaGreatDoor
open Go.Eng Go.Plain
set_option maxHeartbeats 8000000
set_option maxRecDepth 20000
set_option linter.unusedVariables false
attribute [local irreducible] WC RegS RegD SeqQ BlkQ ScoQ RegK CutK Sat SatN FnIs LoopQ StepIs OpIs
theorem words_at {i : Nat} {k : Int} {v : AV} (h : wordsL[i]? = some (k, v)) : ∃ w, v = .d (strD w) ∧ i < 4 ∧ keyOf w = some k ∧ w = wordE k := by
  unfold wordsL at h
  match i, h with
  | 0, h => cases h; exact ⟨_, rfl, by decide, by decide, rfl⟩
  | 1, h => cases h; exact ⟨_, rfl, by decide, by decide, rfl⟩
  | 2, h => cases h; exact ⟨_, rfl, by decide, by decide, rfl⟩
  | 3, h => cases h; exact ⟨_, rfl, by decide, by decide, rfl⟩
  | i + 4, h => simp at h
theorem words_get {w : List UInt8} {k : Int} (h : keyOf w = some k) : ∃ i, i < 4 ∧ wordsL[i]? = some (k, .d (strD w)) := by
  obtain ⟨h1, h2⟩ := keyOf_some h
  rw [h2]
  rcases kn4_out h1 with rfl | rfl | rfl | rfl
  · exact ⟨0, by decide, rfl⟩
  · exact ⟨1, by decide, rfl⟩
  · exact ⟨2, by decide, rfl⟩
  · exact ⟨3, by decide, rfl⟩
theorem zop_ok : zOp.Ok := ⟨by decide, by decide⟩
theorem zev_le2 (k c e : Int) (v : List UInt8) : DLe (.cons (u8s k) (.cons (i6 c) (.cons zPOp (.cons (encBk v) (.cons (i6 e) .nil))))) (encEv ⟨k, c, zOp, v, e⟩) := by
  rintro w X cs ⟨c1, r1, rfl, h1, c2, r2, rfl, h2, c3, r3, rfl, h3, h4⟩
  exact ⟨c1, _, rfl, h1, c2, _, rfl, h2, c3, _, rfl, zop_le _ _ _ h3, h4⟩
theorem zev_args (k c e : Int) (v : List UInt8) : ArgsLe [.d (.cons (u8s k) (.cons (i6 c) (.cons zPOp (.cons (encBk v) (.cons (i6 e) .nil)))))] [.d (encEv ⟨k, c, zOp, v, e⟩)] := ⟨⟨AVLe.d (zev_le2 k c e v) rfl, fun _ _ => trivial⟩, trivial⟩
def leftN (seen : List Nat) : Nat := (if 0 ∈ seen then 0 else 1) + (if 1 ∈ seen then 0 else 1) + (if 2 ∈ seen then 0 else 1) + (if 3 ∈ seen then 0 else 1)
theorem left_lt {seen : List Nat} {i : Nat} (hi : i < 4) (hs : i ∉ seen) : leftN (seen ++ [i]) < leftN seen := by
  unfold leftN
  simp only [List.mem_append, List.mem_singleton]
  match i, hi, hs with
  | 0, _, hs => simp only [hs, if_false, or_true, if_true]; simp
  | 1, _, hs => simp only [hs, if_false, or_true, if_true]; simp
  | 2, _, hs => simp only [hs, if_false, or_true, if_true]; simp
  | 3, _, hs => simp only [hs, if_false, or_true, if_true]; simp
structure FndIs (word : List UInt8) (seen : List Nat) (f : Option Int) : Prop where
  no : f = none → ∀ i ∈ seen, ∀ k, wordsL[i]? ≠ some (k, .d (strD word))
  yes : ∀ k, f = some k → keyOf word = some k
theorem FndIs.all {word : List UInt8} {seen : List Nat} {f : Option Int} (h : FndIs word seen f) (ha : ∀ i, i < 4 → i ∈ seen) : f = keyOf word := by
  cases f with
  | some k => exact (h.yes k rfl).symm
  | none =>
    cases hk : keyOf word with
    | none => rfl
    | some k =>
      obtain ⟨i, hi, hg⟩ := words_get hk
      exact absurd hg (h.no rfl i (ha i hi) k)
theorem strD_inj {a b : List UInt8} (h : strD a = strD b) : a = b := by
  simp only [strD, mkS, D.sc.injEq, Value.string.injEq, ByteArray.mk.injEq] at h
  simpa using h
theorem FndIs.hit {word : List UInt8} {seen : List Nat} {f : Option Int} {i : Nat} {k : Int} (h : wordsL[i]? = some (k, .d (strD word))) (hk : keyOf word = some k) : FndIs word (seen ++ [i]) (some k) :=
  ⟨fun e => (by cases e), fun k' e => by cases e; exact hk⟩
theorem FndIs.miss {word w : List UInt8} {seen : List Nat} {f : Option Int} {i : Nat} {k : Int} (H : FndIs word seen f) (h : wordsL[i]? = some (k, .d (strD w))) (hne : w ≠ word) : FndIs word (seen ++ [i]) f := by
  refine ⟨fun e j hj k' hg => ?_, H.yes⟩
  rcases List.mem_append.1 hj with hj | hj
  · exact H.no e j hj k' hg
  · have : j = i := by simpa using hj
    subst this
    rw [h] at hg
    simp only [Option.some.injEq, Prod.mk.injEq, AV.d.injEq] at hg
    exact hne (strD_inj hg.2)
def retV (more : Bool) (vb : List UInt8) : List UInt8 := if more = true then vb else zBk
def evRet (s : List UInt8) (n : Int) (ok more bb : Bool) (vb : List UInt8) : Option Int → HEv × Bool
  | none => (⟨2, n, zOp, zBk, 0⟩, false)
  | some k => (⟨2, n, zOp, retV more vb, k⟩, (if more = true then bb else true) && (ok && decide (lineE ⟨2, n, zOp, retV more vb, k⟩ = s)))
def kInt (f : Option Int) : Int := f.getD 0
abbrev evBox (n : Int) (f : Option Int) : Row := .box 59 (.d (.cons (u8s 2) (.cons (i6 n) (.cons zPOp (.cons (.vec 32 1 encU8 (List.replicate 32 0)) (.cons (i6 (kInt f)) .nil))))))
theorem event_ret_false (s kind r1 cl rest word value : List UInt8) (b1 b2 more bb : Bool) (n : Int) (vb : List UInt8) (H : HeadIs s kind r1 cl rest b1 b2 false n) (hs : s ≠ sCrash) (h1 : kind = sReturn)
    (hc3 : FnIs Tryz.prog 72 [.d (strD rest), .d (strD [32])] [] (.tup (.acons (.d (strD word)) (.acons (.d (strD value)) (.acons (.bool more) .anil)))) []) (hb : FnIs Tryz.prog 119 [.d (strD value)] [] (blkR vb bb) []) (hbl : bb = true → vb.length = 32) :
    FnIs Tryz.prog 73 [.d (strD s)] [] (evR2 (evRet s n false more bb vb (keyOf word)).1 (evRet s n false more bb vb (keyOf word)).2) [] := by
  have d0 : decide (s = sCrash) = false := decide_eq_false hs
  have d1 : decide (kind = sInvoke) = false := decide_eq_false (by rw [h1]; decide)
  have d2 : decide (kind = sReturn) = true := decide_eq_true h1
  obtain ⟨hc1, hc2, ha⟩ := H
  refine fnIs_of tab_ok Tryz.func73 rfl rfl rfl ?_;refine sR ?_;refine rN ?_;refine rC ?_;refine nQ ?_;refine sR ?_;refine rC ?_;refine rQ (eql_s (a := s) (b := sCrash) tab_ok rfl rfl rfl) ?_
  refine nS ?_;refine wF ?_;refine kS ?_;refine sR ?_;refine rC ?_;refine rQ (call_r hc1 rfl rfl (arg_e (arg_e arg_nil)) (.inl rfl) (fun _ => rfl)) ?_;iterate 7 refine rC ?_
  refine nR ?_;refine rC ?_;refine rQ (call_r hc2 rfl rfl (arg_e (arg_e arg_nil)) (.inl rfl) (fun _ => rfl)) ?_;iterate 7 refine rC ?_
  refine nR ?_;refine rC ?_;refine rQ (call_r ha rfl rfl (arg_e arg_nil) (.inl rfl) (fun _ => rfl)) ?_;iterate 5 refine rC ?_
  refine nR ?_;iterate 2 refine rC ?_
  refine rX ?_;refine nQ ?_;refine sR ?_;refine rC ?_;refine nS ?_;refine wc_block ?_;refine sR ?_;refine rQ (eql_s (a := kind) (b := sInvoke) tab_ok rfl rfl rfl) ?_
  refine rC ?_;refine nS ?_;refine wF ?_;refine sR ?_;refine rQ (eql_s (a := kind) (b := sReturn) tab_ok rfl rfl rfl) ?_;refine rC ?_;refine nS ?_;refine wT ?_;refine sR ?_
  refine rC ?_;refine rX ?_;refine nR ?_;refine rC ?_;refine rQ (call_r hc3 rfl rfl (arg_e (arg_e arg_nil)) (.inl rfl) (fun _ => rfl)) ?_;iterate 7 refine rC ?_
  refine nQ ?_;refine sR ?_;refine reg_new (call_h [] words_is rfl rfl rfl arg_nil trivial rfl rfl (.inl rfl) rfl rfl) rfl ?_;refine reg_new (range_map (κ := Int) (enc := i6) (l := wordsL) Tryz.underlying173 rfl rfl) rfl ?_
  refine nS ?_;refine wc_block ?_
  refine wc_inv (fun q : List Nat × Option Int => ⟨[(89, .ptr 67 []), (14, .d (strD word)), (15, .d (strD value)), (16, .bool more), (10, erA false), (0, .d (strD s)), (2, .ptr 65 []), (3, .bool q.2.isSome)], [(65, some (evBox n q.2)), (66, some (.mo (mapC i6 wordsL))), (67, some (.mi (.mapr 66) 4 4 q.1))], 72, Tryz.f73.ntmps, 64⟩) (fun q => FndIs word q.1 q.2) (fun q => leftN q.1) ([], none) [(65, some 64), (66, some 448), (67, some 456)] ⟨fun _ i hi => (by cases hi), fun k e => (by cases e)⟩
    (.of rfl rfl rfl rfl rfl ⟨⟨_, rfl, .refl _⟩, rfl, ⟨_, rfl, .refl _⟩, rfl, ⟨_, rfl, .refl _⟩, rfl, ⟨_, rfl, .refl _⟩, rfl, ⟨_, rfl, .refl _⟩, rfl, ⟨_, rfl, .refl _⟩, rfl, ⟨_, rfl, .refl _⟩, rfl, ⟨_, rfl, .refl _⟩, rfl, trivial⟩ ⟨⟨rfl, rfl, _, rfl, .refl _⟩, ⟨rfl, rfl, _, rfl, .refl _⟩, ⟨rfl, rfl, _, rfl, .refl _⟩, trivial⟩) ?_
  rintro ⟨seen, f⟩ hf
  simp only at hf
  refine wc_of ?_;refine sR ?_
  refine reg_next_map (κ := Int) (enc := i6) (l := wordsL) rfl rfl rfl rfl rfl (fun hall => ?_) (fun i k v hl hs' => ?_)
  · have hfe := hf.all hall
    subst hfe
    refine rC ?_;refine nQ ?_;refine wG ?_;refine wc_exit ?_;refine seq_x ?_;refine loop_x ?_;refine blk_x ?_;refine seq_n ?_;refine qR ?_;iterate 2 refine rC ?_
    cases hk : keyOf word with
    | none =>
      skip
      cases more with
      | false =>
        refine rT ?_;refine rQ iG ?_;refine nS ?_;refine wG ?_;refine kS ?_;refine sR ?_;iterate 2 refine rC ?_
        refine nS ?_;refine wV ?_;refine sR ?_;refine rQ iM ?_;refine rW ?_;refine rC ?_;refine nS ?_;refine wc_ret ?_;refine blk_r ?_;refine seq_r ?_
        exact ⟨trivial, _, rfl, [], .of rfl rfl rfl rfl rfl ⟨⟨_, rfl, ev_le 2 n 0 false⟩, rfl, trivial⟩ trivial⟩
      | true =>
        refine rP ?_;refine rC ?_;refine rQ iU ?_;refine nS ?_;refine wG ?_;refine kS ?_;refine sR ?_;iterate 2 refine rC ?_
        refine nS ?_;refine wV ?_;refine sR ?_;refine rQ iM ?_;refine rW ?_;refine rC ?_;refine nS ?_;refine wc_ret ?_;refine blk_r ?_;refine seq_r ?_
        exact ⟨trivial, _, rfl, [], .of rfl rfl rfl rfl rfl ⟨⟨_, rfl, ev_le 2 n 0 false⟩, rfl, trivial⟩ trivial⟩
    | some k =>
      have hkn := (keyOf_some hk).1
      have hkr := kn4_out hkn
      skip
      cases more with
      | false =>
        obtain ⟨v, hv⟩ : ∃ v, v = zBk := ⟨_, rfl⟩
        subst hv
        refine rT ?_;refine rQ iG ?_;refine nS ?_;refine wG ?_;refine kS ?_;refine sR ?_;iterate 2 refine rC ?_
        refine nS ?_;refine wG ?_;refine wc_skip ?_;refine blk_n ?_;refine seq_n ?_;refine wc_seq ?_;refine wc_draw (by kernel_rfl) ?_;refine dQ [2] [65] iM ?_;refine dC [10] [] ?_
        refine dQ [114] [] (eql_er Tryz.underlying122 rfl) ?_;refine dC [115] [] ?_;refine dreg_offq [116, 2] rfl rfl rfl rfl ?_;refine dreg_offq [116, 117] rfl rfl rfl rfl ?_
        refine dreg_offq [116, 0] rfl rfl rfl rfl ?_;refine dreg_offq [116, 118, 119] rfl rfl rfl rfl ?_;refine dQ [116, 120] [] iG ?_;refine dreg_s [2, 113] [65] (store_row tab_ok rfl rfl rfl ⟨_, ⟨rfl, rfl, rfl⟩, rfl⟩ rfl) ?_
        refine dC [121] [] ?_;refine dreg_end (by kernel_rfl) ?_;refine seq_n ?_;refine wc_ret ?_
        exact ⟨trivial, _, rfl, [], .of rfl rfl rfl rfl rfl ⟨⟨_, rfl, ev_le 2 n k _⟩, rfl, trivial⟩ trivial⟩
      | true =>
        refine rP ?_;refine rC ?_;refine rQ iU ?_;refine nS ?_;refine wV ?_;refine wc_region ?_;refine rC ?_;refine rQ (call_r hb rfl rfl (arg_e arg_nil) (.inl rfl) (fun _ => rfl)) ?_
        iterate 4 refine rC ?_
        refine rX ?_;refine rC ?_;refine nR ?_;iterate 2 refine rC ?_
        refine nS ?_
        cases bb with
        | false =>
          refine wV ?_;refine sR ?_;refine rQ iM ?_;refine rW ?_;refine rC ?_;refine nS ?_;refine wc_ret ?_;refine blk_r ?_;refine seq_r ?_
          exact ⟨trivial, _, rfl, [], .of rfl rfl rfl rfl rfl ⟨⟨_, rfl, ev_le2 2 n k vb _⟩, rfl, trivial⟩ trivial⟩
        | true =>
          obtain ⟨v, hv⟩ : ∃ v, v = vb := ⟨_, rfl⟩
          subst hv
          refine wG ?_;refine wc_skip ?_;refine blk_n ?_;refine seq_n ?_;refine wc_seq ?_;refine wc_draw (by kernel_rfl) ?_;refine dQ [2] [65] iM ?_;refine dC [10] [] ?_;refine dQ [114] [] (eql_er Tryz.underlying122 rfl) ?_
          refine dC [115] [] ?_;refine dreg_offq [116, 2] rfl rfl rfl rfl ?_;refine dreg_offq [116, 117] rfl rfl rfl rfl ?_;refine dreg_offq [116, 0] rfl rfl rfl rfl ?_;refine dreg_offq [116, 118, 119] rfl rfl rfl rfl ?_
          refine dQ [116, 120] [] iG ?_;refine dreg_s [2, 113] [65] (store_row tab_ok rfl rfl rfl ⟨_, ⟨rfl, rfl, rfl⟩, rfl⟩ rfl) ?_;refine dC [121] [] ?_;refine dreg_end (by kernel_rfl) ?_
          refine seq_n ?_;refine wc_ret ?_
          exact ⟨trivial, _, rfl, [], .of rfl rfl rfl rfl rfl ⟨⟨_, rfl, ev_le2 2 n k v _⟩, rfl, trivial⟩ trivial⟩
  · obtain ⟨w, rfl, hi4, hkw, _⟩ := words_at hl
    refine rC ?_;refine nQ ?_;refine wV ?_;refine kS ?_;refine wc_block ?_;refine sR ?_;refine rQ (entry_map (κ := Int) (enc := i6) (l := wordsL) (i := i) rfl rfl rfl rfl hl) ?_
    iterate 4 refine rC ?_
    refine nR ?_;iterate 2 refine rC ?_
    refine rQ (eql_s (a := w) (b := word) tab_ok rfl rfl rfl) ?_;refine nS ?_
    by_cases hw : w = word
    · have dw : decide (w = word) = true := decide_eq_true hw
      refine wT ?_;refine wc_region ?_;iterate 2 refine rC ?_
      refine rX ?_;refine rC ?_;refine reg_nil ?_;refine blk_n ?_
      subst hw
      exact loop_n (seen ++ [i], some k) [] (FndIs.hit (f := f) hl hkw) (left_lt hi4 hs') (.of rfl rfl rfl rfl rfl ⟨⟨_, rfl, .refl _⟩, rfl, ⟨_, rfl, .refl _⟩, rfl, ⟨_, rfl, .refl _⟩, rfl, ⟨_, rfl, .refl _⟩, rfl, ⟨_, rfl, .refl _⟩, rfl, ⟨_, rfl, .refl _⟩, rfl, ⟨_, rfl, .refl _⟩, rfl, ⟨_, rfl, .refl _⟩, rfl, trivial⟩ ⟨⟨rfl, rfl, _, rfl, .refl _⟩, ⟨rfl, rfl, _, rfl, .refl _⟩, ⟨rfl, rfl, _, rfl, .refl _⟩, trivial⟩)
    · have dw : decide (w = word) = false := decide_eq_false hw
      refine wF ?_;refine wc_skip ?_;refine blk_n ?_
      exact loop_n (seen ++ [i], f) [] (FndIs.miss hf hl hw) (left_lt hi4 hs') (.of rfl rfl rfl rfl rfl ⟨⟨_, rfl, .refl _⟩, rfl, ⟨_, rfl, .refl _⟩, rfl, ⟨_, rfl, .refl _⟩, rfl, ⟨_, rfl, .refl _⟩, rfl, ⟨_, rfl, .refl _⟩, rfl, ⟨_, rfl, .refl _⟩, rfl, ⟨_, rfl, .refl _⟩, rfl, ⟨_, rfl, .refl _⟩, rfl, trivial⟩ ⟨⟨rfl, rfl, _, rfl, .refl _⟩, ⟨rfl, rfl, _, rfl, .refl _⟩, ⟨rfl, rfl, _, rfl, .refl _⟩, trivial⟩)
theorem event_ret_true (s kind r1 cl rest word value : List UInt8) (b1 b2 more bb : Bool) (n : Int) (vb : List UInt8) (H : HeadIs s kind r1 cl rest b1 b2 true n) (hs : s ≠ sCrash) (h1 : kind = sReturn)
    (hc3 : FnIs Tryz.prog 72 [.d (strD rest), .d (strD [32])] [] (.tup (.acons (.d (strD word)) (.acons (.d (strD value)) (.acons (.bool more) .anil)))) []) (hb : FnIs Tryz.prog 119 [.d (strD value)] [] (blkR vb bb) []) (hbl : bb = true → vb.length = 32) (hn0 : -9223372036854775808 ≤ n) (hn1 : n ≤ 9223372036854775807) :
    FnIs Tryz.prog 73 [.d (strD s)] [] (evR2 (evRet s n true more bb vb (keyOf word)).1 (evRet s n true more bb vb (keyOf word)).2) [] := by
  have d0 : decide (s = sCrash) = false := decide_eq_false hs
  have d1 : decide (kind = sInvoke) = false := decide_eq_false (by rw [h1]; decide)
  have d2 : decide (kind = sReturn) = true := decide_eq_true h1
  obtain ⟨hc1, hc2, ha⟩ := H
  refine fnIs_of tab_ok Tryz.func73 rfl rfl rfl ?_;refine sR ?_;refine rN ?_;refine rC ?_;refine nQ ?_;refine sR ?_;refine rC ?_;refine rQ (eql_s (a := s) (b := sCrash) tab_ok rfl rfl rfl) ?_
  refine nS ?_;refine wF ?_;refine kS ?_;refine sR ?_;refine rC ?_;refine rQ (call_r hc1 rfl rfl (arg_e (arg_e arg_nil)) (.inl rfl) (fun _ => rfl)) ?_;iterate 7 refine rC ?_
  refine nR ?_;refine rC ?_;refine rQ (call_r hc2 rfl rfl (arg_e (arg_e arg_nil)) (.inl rfl) (fun _ => rfl)) ?_;iterate 7 refine rC ?_
  refine nR ?_;refine rC ?_;refine rQ (call_r ha rfl rfl (arg_e arg_nil) (.inl rfl) (fun _ => rfl)) ?_;iterate 5 refine rC ?_
  refine nR ?_;iterate 2 refine rC ?_
  refine rX ?_;refine nQ ?_;refine sR ?_;refine rC ?_;refine nS ?_;refine wc_block ?_;refine sR ?_;refine rQ (eql_s (a := kind) (b := sInvoke) tab_ok rfl rfl rfl) ?_
  refine rC ?_;refine nS ?_;refine wF ?_;refine sR ?_;refine rQ (eql_s (a := kind) (b := sReturn) tab_ok rfl rfl rfl) ?_;refine rC ?_;refine nS ?_;refine wT ?_;refine sR ?_
  refine rC ?_;refine rX ?_;refine nR ?_;refine rC ?_;refine rQ (call_r hc3 rfl rfl (arg_e (arg_e arg_nil)) (.inl rfl) (fun _ => rfl)) ?_;iterate 7 refine rC ?_
  refine nQ ?_;refine sR ?_;refine reg_new (call_h [] words_is rfl rfl rfl arg_nil trivial rfl rfl (.inl rfl) rfl rfl) rfl ?_;refine reg_new (range_map (κ := Int) (enc := i6) (l := wordsL) Tryz.underlying173 rfl rfl) rfl ?_
  refine nS ?_;refine wc_block ?_
  refine wc_inv (fun q : List Nat × Option Int => ⟨[(89, .ptr 67 []), (14, .d (strD word)), (15, .d (strD value)), (16, .bool more), (10, erA true), (0, .d (strD s)), (2, .ptr 65 []), (3, .bool q.2.isSome)], [(65, some (evBox n q.2)), (66, some (.mo (mapC i6 wordsL))), (67, some (.mi (.mapr 66) 4 4 q.1))], 72, Tryz.f73.ntmps, 64⟩) (fun q => FndIs word q.1 q.2) (fun q => leftN q.1) ([], none) [(65, some 64), (66, some 448), (67, some 456)] ⟨fun _ i hi => (by cases hi), fun k e => (by cases e)⟩
    (.of rfl rfl rfl rfl rfl ⟨⟨_, rfl, .refl _⟩, rfl, ⟨_, rfl, .refl _⟩, rfl, ⟨_, rfl, .refl _⟩, rfl, ⟨_, rfl, .refl _⟩, rfl, ⟨_, rfl, .refl _⟩, rfl, ⟨_, rfl, .refl _⟩, rfl, ⟨_, rfl, .refl _⟩, rfl, ⟨_, rfl, .refl _⟩, rfl, trivial⟩ ⟨⟨rfl, rfl, _, rfl, .refl _⟩, ⟨rfl, rfl, _, rfl, .refl _⟩, ⟨rfl, rfl, _, rfl, .refl _⟩, trivial⟩) ?_
  rintro ⟨seen, f⟩ hf
  simp only at hf
  refine wc_of ?_;refine sR ?_
  refine reg_next_map (κ := Int) (enc := i6) (l := wordsL) rfl rfl rfl rfl rfl (fun hall => ?_) (fun i k v hl hs' => ?_)
  · have hfe := hf.all hall
    subst hfe
    refine rC ?_;refine nQ ?_;refine wG ?_;refine wc_exit ?_;refine seq_x ?_;refine loop_x ?_;refine blk_x ?_;refine seq_n ?_;refine qR ?_;iterate 2 refine rC ?_
    cases hk : keyOf word with
    | none =>
      skip
      cases more with
      | false =>
        refine rT ?_;refine rQ iG ?_;refine nS ?_;refine wG ?_;refine kS ?_;refine sR ?_;iterate 2 refine rC ?_
        refine nS ?_;refine wV ?_;refine sR ?_;refine rQ iM ?_;refine rW ?_;refine rC ?_;refine nS ?_;refine wc_ret ?_;refine blk_r ?_;refine seq_r ?_
        exact ⟨trivial, _, rfl, [], .of rfl rfl rfl rfl rfl ⟨⟨_, rfl, ev_le 2 n 0 false⟩, rfl, trivial⟩ trivial⟩
      | true =>
        refine rP ?_;refine rC ?_;refine rQ iU ?_;refine nS ?_;refine wG ?_;refine kS ?_;refine sR ?_;iterate 2 refine rC ?_
        refine nS ?_;refine wV ?_;refine sR ?_;refine rQ iM ?_;refine rW ?_;refine rC ?_;refine nS ?_;refine wc_ret ?_;refine blk_r ?_;refine seq_r ?_
        exact ⟨trivial, _, rfl, [], .of rfl rfl rfl rfl rfl ⟨⟨_, rfl, ev_le 2 n 0 false⟩, rfl, trivial⟩ trivial⟩
    | some k =>
      have hkn := (keyOf_some hk).1
      have hkr := kn4_out hkn
      skip
      cases more with
      | false =>
        obtain ⟨v, hv⟩ : ∃ v, v = zBk := ⟨_, rfl⟩
        have hok : HEv.Ok ⟨2, n, zOp, v, k⟩ := ⟨show (0 : Int) ≤ 2 ∧ (2 : Int) ≤ 255 by decide, ⟨hn0, hn1⟩, zop_ok, by rw [hv]; rfl, by rcases hkr with h | h | h | h <;> (simp only [h]; decide)⟩
        have hline := FnIs.args_le (zev_args 2 n k v) (hline_is ⟨2, n, zOp, v, k⟩ hok (show zOp.data.length ≤ 64 by decide))
        rw [show evRet s n true false bb vb (some k) = (⟨2, n, zOp, v, k⟩, decide (lineE ⟨2, n, zOp, v, k⟩ = s)) by rw [hv]; rfl]
        subst hv
        refine rT ?_;refine rQ iG ?_;refine nS ?_;refine wG ?_;refine kS ?_;refine sR ?_;iterate 2 refine rC ?_
        refine nS ?_;refine wG ?_;refine wc_skip ?_;refine blk_n ?_;refine seq_n ?_;refine wc_seq ?_;refine wc_draw (by kernel_rfl) ?_;refine dQ [2] [65] iM ?_;refine dC [10] [] ?_
        refine dQ [114] [] (eql_nilI Tryz.underlying122 rfl) ?_;refine dC [115] [] ?_;refine dreg_onq [116, 2] [65] rfl rfl rfl rfl (load_box tab_ok rfl rfl rfl rfl) ?_
        refine dreg_onq [116, 117] [] rfl rfl rfl rfl (call_r hline rfl rfl (arg_e arg_nil) (.inl rfl) (fun _ => rfl)) ?_;refine dreg_onq [116, 0] [] rfl rfl rfl rfl (step_C tab_ok (fun K hk => hk)) ?_
        refine dreg_onq [116, 118, 119] [] rfl rfl rfl rfl (eql_s (a := lineE ⟨2, n, zOp, zBk, k⟩) (b := s) tab_ok rfl rfl rfl) ?_;refine dQ [116, 120] [] iU ?_;refine dreg_s [2, 113] [65] (store_row tab_ok rfl rfl rfl ⟨_, ⟨rfl, rfl, rfl⟩, rfl⟩ rfl) ?_
        refine dC [121] [] ?_;refine dreg_end (by kernel_rfl) ?_;refine seq_n ?_;refine wc_ret ?_
        exact ⟨trivial, _, rfl, [], .of rfl rfl rfl rfl rfl ⟨⟨_, rfl, ev_le 2 n k _⟩, rfl, trivial⟩ trivial⟩
      | true =>
        refine rP ?_;refine rC ?_;refine rQ iU ?_;refine nS ?_;refine wV ?_;refine wc_region ?_;refine rC ?_;refine rQ (call_r hb rfl rfl (arg_e arg_nil) (.inl rfl) (fun _ => rfl)) ?_
        iterate 4 refine rC ?_
        refine rX ?_;refine rC ?_;refine nR ?_;iterate 2 refine rC ?_
        refine nS ?_
        cases bb with
        | false =>
          refine wV ?_;refine sR ?_;refine rQ iM ?_;refine rW ?_;refine rC ?_;refine nS ?_;refine wc_ret ?_;refine blk_r ?_;refine seq_r ?_
          exact ⟨trivial, _, rfl, [], .of rfl rfl rfl rfl rfl ⟨⟨_, rfl, ev_le2 2 n k vb _⟩, rfl, trivial⟩ trivial⟩
        | true =>
          obtain ⟨v, hv⟩ : ∃ v, v = vb := ⟨_, rfl⟩
          subst hv
          have hok : HEv.Ok ⟨2, n, zOp, v, k⟩ := ⟨show (0 : Int) ≤ 2 ∧ (2 : Int) ≤ 255 by decide, ⟨hn0, hn1⟩, zop_ok, hbl rfl, by rcases hkr with h | h | h | h <;> (simp only [h]; decide)⟩
          have hline := FnIs.args_le (zev_args 2 n k v) (hline_is ⟨2, n, zOp, v, k⟩ hok (show zOp.data.length ≤ 64 by decide))
          refine wG ?_;refine wc_skip ?_;refine blk_n ?_;refine seq_n ?_;refine wc_seq ?_;refine wc_draw (by kernel_rfl) ?_;refine dQ [2] [65] iM ?_;refine dC [10] [] ?_;refine dQ [114] [] (eql_nilI Tryz.underlying122 rfl) ?_
          refine dC [115] [] ?_;refine dreg_onq [116, 2] [65] rfl rfl rfl rfl (load_box tab_ok rfl rfl rfl rfl) ?_;refine dreg_onq [116, 117] [] rfl rfl rfl rfl (call_r hline rfl rfl (arg_e arg_nil) (.inl rfl) (fun _ => rfl)) ?_
          refine dreg_onq [116, 0] [] rfl rfl rfl rfl (step_C tab_ok (fun K hk => hk)) ?_;refine dreg_onq [116, 118, 119] [] rfl rfl rfl rfl (eql_s (a := lineE ⟨2, n, zOp, v, k⟩) (b := s) tab_ok rfl rfl rfl) ?_
          refine dQ [116, 120] [] iU ?_;refine dreg_s [2, 113] [65] (store_row tab_ok rfl rfl rfl ⟨_, ⟨rfl, rfl, rfl⟩, rfl⟩ rfl) ?_;refine dC [121] [] ?_;refine dreg_end (by kernel_rfl) ?_
          refine seq_n ?_;refine wc_ret ?_
          exact ⟨trivial, _, rfl, [], .of rfl rfl rfl rfl rfl ⟨⟨_, rfl, ev_le2 2 n k v _⟩, rfl, trivial⟩ trivial⟩
  · obtain ⟨w, rfl, hi4, hkw, _⟩ := words_at hl
    refine rC ?_;refine nQ ?_;refine wV ?_;refine kS ?_;refine wc_block ?_;refine sR ?_;refine rQ (entry_map (κ := Int) (enc := i6) (l := wordsL) (i := i) rfl rfl rfl rfl hl) ?_
    iterate 4 refine rC ?_
    refine nR ?_;iterate 2 refine rC ?_
    refine rQ (eql_s (a := w) (b := word) tab_ok rfl rfl rfl) ?_;refine nS ?_
    by_cases hw : w = word
    · have dw : decide (w = word) = true := decide_eq_true hw
      refine wT ?_;refine wc_region ?_;iterate 2 refine rC ?_
      refine rX ?_;refine rC ?_;refine reg_nil ?_;refine blk_n ?_
      subst hw
      exact loop_n (seen ++ [i], some k) [] (FndIs.hit (f := f) hl hkw) (left_lt hi4 hs') (.of rfl rfl rfl rfl rfl ⟨⟨_, rfl, .refl _⟩, rfl, ⟨_, rfl, .refl _⟩, rfl, ⟨_, rfl, .refl _⟩, rfl, ⟨_, rfl, .refl _⟩, rfl, ⟨_, rfl, .refl _⟩, rfl, ⟨_, rfl, .refl _⟩, rfl, ⟨_, rfl, .refl _⟩, rfl, ⟨_, rfl, .refl _⟩, rfl, trivial⟩ ⟨⟨rfl, rfl, _, rfl, .refl _⟩, ⟨rfl, rfl, _, rfl, .refl _⟩, ⟨rfl, rfl, _, rfl, .refl _⟩, trivial⟩)
    · have dw : decide (w = word) = false := decide_eq_false hw
      refine wF ?_;refine wc_skip ?_;refine blk_n ?_
      exact loop_n (seen ++ [i], f) [] (FndIs.miss hf hl hw) (left_lt hi4 hs') (.of rfl rfl rfl rfl rfl ⟨⟨_, rfl, .refl _⟩, rfl, ⟨_, rfl, .refl _⟩, rfl, ⟨_, rfl, .refl _⟩, rfl, ⟨_, rfl, .refl _⟩, rfl, ⟨_, rfl, .refl _⟩, rfl, ⟨_, rfl, .refl _⟩, rfl, ⟨_, rfl, .refl _⟩, rfl, ⟨_, rfl, .refl _⟩, rfl, trivial⟩ ⟨⟨rfl, rfl, _, rfl, .refl _⟩, ⟨rfl, rfl, _, rfl, .refl _⟩, ⟨rfl, rfl, _, rfl, .refl _⟩, trivial⟩)
end Go.Proofs.YtmojbghcngdkpaaGreatDoor

namespace Go.Proofs.YtmojbghcngdkpaaGreatDoor
open Go.Eng Go.Plain
set_option maxHeartbeats 8000000
set_option maxRecDepth 20000
set_option linter.unusedVariables false
set_option linter.unusedSimpArgs false
attribute [local irreducible] WC RegS RegD SeqQ BlkQ ScoQ RegK CutK Sat SatN FnIs LoopQ StepIs OpIs
def joinL : List (List UInt8) → List UInt8
  | [] => []
  | [w] => w
  | w :: v :: ws => w ++ 32 :: joinL (v :: ws)
def j32 (w : List UInt8) : List UInt8 := w ++ [32]
def joinP (ws : List (List UInt8)) (k : Nat) : List UInt8 := if k < ws.length then (ws.take k).flatMap j32 else joinL ws
abbrev rdR (y : HEv) (b : Bool) : AV := .tup (.acons (.d (encEv y)) (.acons (.int .i64 (if b then 1 else 0)) .anil))
end Go.Proofs.YtmojbghcngdkpaaGreatDoor

namespace Go.Proofs.YtmojbghcngdkpaaGreatDoor
open Go.Eng Go.Plain
set_option maxHeartbeats 8000000
set_option maxRecDepth 20000
set_option linter.unusedVariables false
set_option linter.unusedSimpArgs false
attribute [local irreducible] WC RegS RegD SeqQ BlkQ ScoQ RegK CutK Sat SatN FnIs LoopQ StepIs OpIs
def errs4 : List Int := [0, 1, 8, 9]
def keyUp (c : List UInt8) (i : Nat) : Int := (errs4.take i).foldl (fun a e => if rword e = c then e else a) 0
def cpL (l : List Int) (i : Nat) : List Int := l.take i ++ List.replicate (32 - i) 0
abbrev rvBox (n e : Int) (v : List Int) : Row := .box 59 (.d (.cons (u8s 2) (.cons (i6 n) (.cons zPOp (.cons (.vec 32 1 encU8 v) (.cons (i6 e) .nil))))))
end Go.Proofs.YtmojbghcngdkpaaGreatDoor

namespace Go.Proofs.YtmojbghcngdkpaaGreatDoor
open Go.Eng Go.Plain
abbrev RdIs (s : List UInt8) : Prop := ∃ y, FnIs Tryz.prog 70 [.d (strD s)] [] (rdR y (evR s).isSome) [] ∧ ∀ x, evR s = some x → y = x
end Go.Proofs.YtmojbghcngdkpaaGreatDoor

namespace Go.Proofs.YtmojbghcngdkpaaGreatDoor
open Go.Eng Go.Plain
set_option linter.unusedVariables false
theorem cutA_len (l : List UInt8) (c : UInt8) : (cutA l c).1.length ≤ l.length ∧ (cutA l c).2.1.length ≤ l.length ∧ ((cutA l c).2.1 = [] ∨ (cutA l c).1.length + 1 + (cutA l c).2.1.length = l.length) := by
  unfold cutA
  cases h : cutL l c with
  | none => exact ⟨Nat.le_refl _, Nat.zero_le _, .inl rfl⟩
  | some pq =>
    obtain ⟨p, q⟩ := pq
    have := (cutL_some h).1
    have hl : l.length = p.length + 1 + q.length := by rw [this]; simp; omega
    exact ⟨by simp only; omega, by simp only; omega, .inr (by simp only; omega)⟩
theorem fin_none {s : List UInt8} {x : HEv} : finE s false x = none := by rw [finE, if_neg (fun h => by cases h.1)]
theorem fin_true {s : List UInt8} {x : HEv} : finE s true x = if lineE x = s then some x else none := by
  unfold finE
  by_cases h : lineE x = s
  · rw [if_pos ⟨rfl, h⟩, if_pos h]
  · rw [if_neg (fun q => h q.2), if_neg h]
abbrev EvIs (s : List UInt8) : Prop := ∃ y, FnIs Tryz.prog 73 [.d (strD s)] [] (evR2 y (evP s).isSome) [] ∧ ∀ x, evP s = some x → y = x
theorem evIs_fin {s : List UInt8} {ok : Bool} {x : HEv} (he : evP s = finE s ok x) (hf : FnIs Tryz.prog 73 [.d (strD s)] [] (evR2 x (ok && decide (lineE x = s))) []) : EvIs s := by
  refine ⟨x, ?_, fun y hy => ?_⟩
  · have : (evP s).isSome = (ok && decide (lineE x = s)) := by
      rw [he]
      cases ok with
      | false => rw [fin_none]; rfl
      | true =>
        rw [fin_true]
        by_cases h : lineE x = s
        · rw [if_pos h, decide_eq_true h]; rfl
        · rw [if_neg h, decide_eq_false h]; rfl
    rw [this]; exact hf
  · rw [he] at hy
    exact (fin_some hy).2.2
theorem evIs_none {s : List UInt8} {x : HEv} (he : evP s = none) (hf : FnIs Tryz.prog 73 [.d (strD s)] [] (evR2 x false) []) : EvIs s :=
  ⟨x, by rw [he]; exact hf, fun y hy => by rw [he] at hy; cases hy⟩
theorem event_is (s : List UInt8) (hs : s.length ≤ 1048576) : EvIs s := by
  by_cases hc : s = sCrash
  · have he : evP s = some crashE := by rw [evP, if_pos hc]
    exact ⟨crashE, by rw [he]; exact event_crash s hc, fun x hx => by rw [he] at hx; cases hx; rfl⟩
  obtain ⟨kind, r1, b1, hk1⟩ : ∃ a b c, cutA s 32 = (a, b, c) := ⟨_, _, _, rfl⟩
  obtain ⟨cl, rest, b2, hk2⟩ : ∃ a b c, cutA r1 32 = (a, b, c) := ⟨_, _, _, rfl⟩
  have l1 := cutA_len s 32
  have l2 := cutA_len r1 32
  rw [hk1] at l1
  rw [hk2] at l2
  simp only at l1 l2
  have c1 := cut_is (l := s) (c := 32) (by omega)
  have c2 := cut_is (l := r1) (c := 32) (by omega)
  have a := atoi_is (l := cl) (by omega)
  rw [hk1] at c1
  rw [hk2] at c2
  have H : HeadIs s kind r1 cl rest b1 b2 (atoiOk cl) (atoiV cl) := ⟨c1, c2, a⟩
  have hev : evP s = if kind = sInvoke then
      match parseP (sClient ++ 10 :: (rest ++ [10])) [] 1 with
      | ([[o]], _, e) => if e = 0 then finE s (atoiOk cl) ⟨1, atoiV cl, o, zBk, 0⟩ else none
      | _ => none
    else if kind = sReturn then
      match keyOf (cutA rest 32).1 with
      | none => none
      | some k => if (cutA rest 32).2.2 = true then
          match blockP (cutA rest 32).2.1 with
          | none => none
          | some v => finE s (atoiOk cl) ⟨2, atoiV cl, zOp, v, k⟩
        else finE s (atoiOk cl) ⟨2, atoiV cl, zOp, zBk, k⟩
    else none := by
    rw [evP, if_neg hc, hk1]
    simp only
    (rw [hk2]) <;> rfl
  by_cases hi : kind = sInvoke
  · rw [if_pos hi] at hev
    have hkl : kind.length = 6 := by rw [hi]; rfl
    have hrl : rest.length ≤ 1048568 := by
      rcases l1.2.2 with e | e
      · have : r1.length = 0 := by rw [e]; rfl
        omega
      · rcases l2.2.2 with e2 | e2
        · have : rest.length = 0 := by rw [e2]; rfl
          omega
        · omega
    have hp := parse_is (sClient ++ [10] ++ rest ++ [10]) (by simp [sClient]; omega)
    have htx : sClient ++ [10] ++ rest ++ [10] = sClient ++ 10 :: (rest ++ [10]) := by simp
    obtain ⟨l, k, e, hP⟩ : ∃ l k e, parseP (sClient ++ 10 :: (rest ++ [10])) [] 1 = (l, k, e) := ⟨_, _, _, rfl⟩
    rw [show parseP (sClient ++ [10] ++ rest ++ [10]) [] 1 = (l, k, e) by rw [htx]; exact hP] at hp
    simp only at hp
    rw [hP] at hev
    by_cases hyes : atoiOk cl = true ∧ e = 0 ∧ l.length = 1 ∧ ∀ p, l[0]? = some p → p.length = 1
    · obtain ⟨hok, rfl, hl1, hl2⟩ := hyes
      obtain ⟨p, rfl⟩ : ∃ p, l = [p] := List.length_eq_one_iff.1 hl1
      obtain ⟨o, rfl⟩ : ∃ o, p = [o] := List.length_eq_one_iff.1 (hl2 p rfl)
      simp only [if_pos] at hev
      obtain ⟨q1, q2, _⟩ := parse_line2 hP
      obtain ⟨r1', r2'⟩ := atoi_range hok
      rw [hok] at H hev
      refine evIs_fin hev ?_
      rw [Bool.true_and]
      exact event_inv s kind r1 cl rest b1 b2 (atoiV cl) H hc hi hrl o k hp ⟨show (0 : Int) ≤ 1 ∧ (1 : Int) ≤ 255 by decide, ⟨r1', r2'⟩, q1, rfl, by show (-9223372036854775808 : Int) ≤ 0 ∧ (0 : Int) ≤ 9223372036854775807; decide⟩ q2 _ rfl
    · refine evIs_none ?_ (event_inv_no s kind r1 cl rest b1 b2 (atoiOk cl) (atoiV cl) H hc hi hrl l k e hp hyes)
      rw [hev]
      split
      · rename_i o k' e' heq
        cases heq
        split
        · rename_i he0
          cases hok : atoiOk cl with
          | false => exact fin_none
          | true => exact absurd ⟨hok, he0, rfl, fun p hp => by cases hp; rfl⟩ hyes
        · rfl
      · rfl
  rw [if_neg hi] at hev
  by_cases hr : kind = sReturn
  · rw [if_pos hr] at hev
    obtain ⟨word, value, more, hk3⟩ : ∃ a b c, cutA rest 32 = (a, b, c) := ⟨_, _, _, rfl⟩
    have l3 := cutA_len rest 32
    rw [hk3] at l3 hev
    simp only at l3 hev
    have c3 := cut_is (l := rest) (c := 32) (by omega)
    rw [hk3] at c3
    have hbk : ∃ vb bb, FnIs Tryz.prog 119 [.d (strD value)] [] (blkR vb bb) [] ∧ (bb = true → vb.length = 32) ∧ (blockP value = if bb = true then some vb else none) := by
      cases hb : blockP value with
      | none =>
        obtain ⟨v, hv⟩ := block_none value hb (by omega)
        exact ⟨v, false, hv, (fun h => by cases h), by rw [if_neg (by decide)]⟩
      | some v => exact ⟨v, true, block_some value v hb, fun _ => block_len hb, by rw [if_pos rfl]⟩
    obtain ⟨vb, bb, hb1, hb2, hb3⟩ := hbk
    have hF : FnIs Tryz.prog 73 [.d (strD s)] [] (evR2 (evRet s (atoiV cl) (atoiOk cl) more bb vb (keyOf word)).1 (evRet s (atoiV cl) (atoiOk cl) more bb vb (keyOf word)).2) [] := by
      cases hok : atoiOk cl with
      | false =>
        rw [hok] at H
        exact event_ret_false s kind r1 cl rest word value b1 b2 more bb (atoiV cl) vb H hc hr c3 hb1 hb2
      | true =>
        obtain ⟨q1, q2⟩ := atoi_range hok
        rw [hok] at H
        exact event_ret_true s kind r1 cl rest word value b1 b2 more bb (atoiV cl) vb H hc hr c3 hb1 hb2 q1 q2
    cases hkw : keyOf word with
    | none =>
      rw [hkw] at hF hev
      exact evIs_none hev hF
    | some k =>
      rw [hkw] at hF hev
      simp only at hev
      unfold evRet at hF
      simp only at hF
      cases more with
      | false =>
        simp only [Bool.false_eq_true, if_false, Bool.true_and] at hF hev
        exact evIs_fin hev hF
      | true =>
        simp only [if_true] at hF hev
        rw [hb3] at hev
        cases bb with
        | false =>
          simp only [Bool.false_eq_true, if_false, Bool.false_and] at hF hev
          exact evIs_none hev hF
        | true =>
          simp only [if_true, Bool.true_and] at hF hev
          exact evIs_fin hev hF
  · rw [if_neg hr] at hev
    exact evIs_none hev (event_other s kind r1 cl rest b1 b2 (atoiOk cl) (atoiV cl) H hc hi hr)
end Go.Proofs.YtmojbghcngdkpaaGreatDoor

namespace Go.Proofs.YtmojbghcngdkpaaGreatDoor
open Go.Eng Go.Plain
set_option maxHeartbeats 8000000
set_option maxRecDepth 20000
set_option linter.unusedVariables false
attribute [local irreducible] WC RegS RegD SeqQ BlkQ ScoQ RegK CutK Sat SatN FnIs LoopQ StepIs OpIs
abbrev hpR (l : List HEv) (n : Nat) (e : Int) : AV := .tup (.acons (.d (encHX l)) (.acons (.int .i64 n) (.acons (.d (i6 e)) .anil)))
structure HPInv (s0 : List UInt8) (rd : RdS) (h : List HEv) (s : List UInt8) : Prop where
  rok : rd.Ok h.length
  len : h.length ≤ 8192
  sl : s.length ≤ 1048576
  eq : hparse s rd h (h.length + 1) = hparse s0 rd0 [] 1
theorem hparse_main (s0 : List UInt8) (hl : s0.length ≤ 1048576) : FnIs Tryz.prog 30 [.d (strD s0)] [] (hpR (hparse s0 rd0 [] 1).1 (hparse s0 rd0 [] 1).2.1 (hparse s0 rd0 [] 1).2.2) [] := by
  have h0 : decide ((1048576 : Int) < (s0.length : Int)) = false := decide_eq_false (by omega)
  refine fnIs_of tab_ok Tryz.func30 rfl rfl rfl ?_;refine sR ?_;iterate 3 refine rC ?_
  refine nQ ?_;refine sR ?_;refine rC ?_;refine rQ (len_s tab_ok rfl rfl) ?_;refine rC ?_;refine nS ?_;refine wF ?_;refine kS ?_;refine sR ?_;refine rQ iS ?_;refine rN ?_
  refine rC ?_;refine nR ?_;iterate 3 refine rC ?_
  refine nQ ?_;refine sR ?_;refine rC ?_;refine nS ?_;refine wc_block ?_
  refine wc_inv (fun q : RdS × List HEv × List UInt8 => ⟨[(0, .d (strD q.2.2)), (2, .own 66 0 q.2.1.length 38 none), (3, .int .i64 ((q.2.1.length + 1 : Nat) : Int)), (6, fnT 64)], [(64, some (rdRow q.1 65)), (65, some (opRow q.1.all)), (66, some (.ds 59 38 false encEv q.2.1))], 72, Tryz.f30.ntmps, 64⟩) (fun q => HPInv s0 q.1 q.2.1 q.2.2) (fun q => q.2.2.length) (rd0, [], s0) [(64, some 120), (65, none), (66, none)] ⟨rd0_ok, Nat.zero_le _, hl, rfl⟩
    (.of rfl rfl rfl rfl rfl ⟨⟨_, rfl, .refl _⟩, rfl, ⟨_, rfl, .refl _⟩, rfl, ⟨_, rfl, .refl _⟩, rfl, ⟨_, rfl, .refl _⟩, rfl, trivial⟩ ⟨⟨rfl, rfl, _, rfl, rd0_le⟩, ⟨rfl, rfl, rfl⟩, ⟨rfl, rfl, rfl⟩, trivial⟩) ?_
  rintro ⟨rd, h, s⟩ hs
  simp only at hs
  refine wc_of ?_
  have hsl := hs.sl
  have hle := hs.len
  have hn : h.length ≤ 1000000 := by omega
  have hal : h.length + 1 ≤ 1048576 := by omega
  have hw1 : IntKind.i64.wrap (((h.length + 1 : Nat) : Int) + 1) = ((h.length + 1 + 1 : Nat) : Int) := wrap_i64 (by omega) (by omega)
  by_cases hz : s = []
  · have e0 : (!decide (s = [])) = false := by rw [decide_eq_true hz]; rfl
    have he := hs.eq
    rw [hz, hparse_nil] at he
    rw [← he]
    refine qR ?_;refine rC ?_;refine rQ (neq_s (a := s) (b := []) tab_ok rfl rfl rfl) ?_;refine nS ?_;refine wF ?_;refine wc_exit ?_;refine seq_x ?_;refine loop_x ?_
    refine blk_x ?_;refine seq_n ?_;refine sR ?_;refine rC ?_;refine reg_freeze (env' := [(58, _)]) (h' := []) 66 _ rfl ⟨⟨_, rfl, Frz.own rfl⟩, trivial⟩ trivial ?_;refine rQ (call_r (exe_is h (by omega)) rfl rfl (arg_e arg_nil) (.inl rfl) (fun _ => rfl)) ?_
    iterate 3 refine rC ?_
    refine nS ?_;refine wc_ret ?_
    exact ⟨trivial, [], lf⟩
  have e0 : (!decide (s = [])) = true := by rw [decide_eq_false hz]; rfl
  have hcut := cut_is (l := s) (c := 10) (by omega)
  have he := hs.eq
  cases hc : cutL s 10 with
  | none =>
    rw [hparse_none _ _ _ hz hc] at he
    rw [← he]
    rw [cutA, hc] at hcut
    simp only at hcut
    obtain ⟨y, hev, _⟩ := event_is s hsl
    refine qR ?_;refine rC ?_;refine rQ (neq_s (a := s) (b := []) tab_ok rfl rfl rfl) ?_;refine nS ?_;refine wT ?_;refine kS ?_;refine wc_seq ?_;refine wc_block ?_;refine sR ?_
    refine rC ?_;refine rQ (call_r hcut rfl rfl (arg_e (arg_e arg_nil)) (.inl rfl) (fun _ => rfl)) ?_;iterate 7 refine rC ?_
    refine nR ?_;refine rC ?_;refine rQ (call_r hev rfl rfl (arg_e arg_nil) (.inl rfl) (fun _ => rfl)) ?_;iterate 3 refine rC ?_
    refine rN ?_;refine rW ?_;refine rC ?_;refine nQ ?_;refine wc_block ?_;refine sR ?_;iterate 3 refine rC ?_
    iterate 2 refine rT ?_
    refine rQ iU ?_;refine rC ?_;refine nS ?_;refine wV ?_;refine sR ?_;iterate 4 refine rC ?_
    refine nS ?_;refine wc_ret ?_;refine blk_r ?_;refine seq_r ?_;refine blk_r ?_;refine seq_r ?_;refine loop_r ?_;refine blk_r ?_;refine seq_r ?_
    exact ⟨trivial, [], .of rfl rfl rfl rfl rfl ⟨⟨_, rfl, AVLe.tup1 (nil_arx _ _) rfl⟩, rfl, trivial⟩ trivial⟩
  | some tr =>
    obtain ⟨t, r⟩ := tr
    rw [cutA, hc] at hcut
    simp only at hcut
    rw [hparse_some _ _ _ hz hc] at he
    have hlc := (cutL_some hc).1
    have hlen : s.length = t.length + 1 + r.length := by rw [hlc]; simp; omega
    obtain ⟨y, hev, hy⟩ := event_is t (by omega)
    cases hep : evP t with
    | none =>
      rw [hep] at hev he
      simp only [Option.isSome] at hev
      simp only at he
      rw [← he]
      refine qR ?_;refine rC ?_;refine rQ (neq_s (a := s) (b := []) tab_ok rfl rfl rfl) ?_;refine nS ?_;refine wT ?_;refine kS ?_;refine wc_seq ?_;refine wc_block ?_;refine sR ?_
      refine rC ?_;refine rQ (call_r hcut rfl rfl (arg_e (arg_e arg_nil)) (.inl rfl) (fun _ => rfl)) ?_;iterate 7 refine rC ?_
      refine nR ?_;refine rC ?_;refine rQ (call_r hev rfl rfl (arg_e arg_nil) (.inl rfl) (fun _ => rfl)) ?_;iterate 3 refine rC ?_
      refine rN ?_;refine rW ?_;refine rC ?_;refine nQ ?_;refine wc_block ?_;refine sR ?_;iterate 3 refine rC ?_
      refine rP ?_;refine rC ?_;refine rP ?_;refine rC ?_;refine rQ iG ?_;refine rC ?_;refine nS ?_;refine wV ?_;refine sR ?_;iterate 4 refine rC ?_
      refine nS ?_;refine wc_ret ?_;refine blk_r ?_;refine seq_r ?_;refine blk_r ?_;refine seq_r ?_;refine loop_r ?_;refine blk_r ?_;refine seq_r ?_
      exact ⟨trivial, [], .of rfl rfl rfl rfl rfl ⟨⟨_, rfl, AVLe.tup1 (nil_arx _ _) rfl⟩, rfl, trivial⟩ trivial⟩
    | some x =>
      have := hy x hep
      subst this
      obtain ⟨x, rfl⟩ : ∃ x, x = y := ⟨y, rfl⟩
      rw [hep] at hev he
      simp only [Option.isSome] at hev
      simp only at he
      have hxw := (evP_some hep).1
      by_cases h8 : 8192 < h.length + 1
      · have e8 : decide ((8192 : Int) < ((h.length + 1 : Nat) : Int)) = true := decide_eq_true (by omega)
        rw [if_pos h8] at he
        rw [← he]
        refine qR ?_;refine rC ?_;refine rQ (neq_s (a := s) (b := []) tab_ok rfl rfl rfl) ?_;refine nS ?_;refine wT ?_;refine kS ?_;refine wc_seq ?_;refine wc_block ?_;refine sR ?_
        refine rC ?_;refine rQ (call_r hcut rfl rfl (arg_e (arg_e arg_nil)) (.inl rfl) (fun _ => rfl)) ?_;iterate 7 refine rC ?_
        refine nR ?_;refine rC ?_;refine rQ (call_r hev rfl rfl (arg_e arg_nil) (.inl rfl) (fun _ => rfl)) ?_;iterate 3 refine rC ?_
        refine rN ?_;refine rW ?_;refine rC ?_;refine nQ ?_;refine wc_block ?_;refine sR ?_;iterate 3 refine rC ?_
        refine rP ?_;refine rC ?_;refine rP ?_;refine rC ?_;refine rQ iG ?_;refine rC ?_;refine nS ?_;refine wG ?_;refine sR ?_;iterate 3 refine rC ?_
        refine nS ?_;refine wT ?_;refine sR ?_;iterate 4 refine rC ?_
        refine nS ?_;refine wc_ret ?_;refine blk_r ?_;refine seq_r ?_;refine blk_r ?_;refine seq_r ?_;refine loop_r ?_;refine blk_r ?_;refine seq_r ?_
        exact ⟨trivial, [], .of rfl rfl rfl rfl rfl ⟨⟨_, rfl, AVLe.tup1 (nil_arx _ _) rfl⟩, rfl, trivial⟩ trivial⟩
      · have e8 : decide ((8192 : Int) < ((h.length + 1 : Nat) : Int)) = false := decide_eq_false (by omega)
        rw [if_neg h8] at he
        have hdx : x.op.data.length ≤ 1048576 := by
          rcases hxw.2.2 with h | h | h
          · rw [h.2.2.1]; decide
          · have := h.2.2.2.2; omega
          · rw [h.2.1]; decide
        cases hb : (takeS rd x).2 with
        | false =>
          have eb : (!(takeS rd x).2) = true := by rw [hb]; rfl
          rw [hb] at he
          simp only [Bool.false_eq_true, if_false] at he
          rw [← he]
          refine qR ?_;refine rC ?_;refine rQ (neq_s (a := s) (b := []) tab_ok rfl rfl rfl) ?_;refine nS ?_;refine wT ?_;refine kS ?_;refine wc_seq ?_;refine wc_block ?_;refine sR ?_
          refine rC ?_;refine rQ (call_r hcut rfl rfl (arg_e (arg_e arg_nil)) (.inl rfl) (fun _ => rfl)) ?_;iterate 7 refine rC ?_
          refine nR ?_;refine rC ?_;refine rQ (call_r hev rfl rfl (arg_e arg_nil) (.inl rfl) (fun _ => rfl)) ?_;iterate 3 refine rC ?_
          refine rN ?_;refine rW ?_;refine rC ?_;refine nQ ?_;refine wc_block ?_;refine sR ?_;iterate 3 refine rC ?_
          refine rP ?_;refine rC ?_;refine rP ?_;refine rC ?_;refine rQ iG ?_;refine rC ?_;refine nS ?_;refine wG ?_;refine sR ?_;iterate 3 refine rC ?_
          refine nS ?_;refine wF ?_;refine sR ?_;refine rC ?_;refine rQ iM ?_;refine reg_do rfl (call_b [(0, some 64), (1, some 65)] (take_is rd x h.length hs.rok hn) rfl rfl rfl rfl (arg_ptr rfl rfl (arg_e arg_nil)) ⟨⟨rfl, rfl, _, _, rfl, rfl, .refl _⟩, ⟨rfl, rfl, _, _, rfl, rfl, .refl _⟩, trivial⟩ rfl rfl (.inl rfl) rfl rfl) rfl rfl ?_
          iterate 2 refine rC ?_
          refine nS ?_;refine wT ?_;refine sR ?_;iterate 4 refine rC ?_
          refine nS ?_;refine wc_ret ?_;refine blk_r ?_;refine seq_r ?_;refine blk_r ?_;refine seq_r ?_;refine loop_r ?_;refine blk_r ?_;refine seq_r ?_
          exact ⟨trivial, [], .of rfl rfl rfl rfl rfl ⟨⟨_, rfl, AVLe.tup1 (nil_arx _ _) rfl⟩, rfl, trivial⟩ trivial⟩
        | true =>
          have eb : (!(takeS rd x).2) = false := by rw [hb]; rfl
          rw [hb, if_pos rfl] at he
          have hl1 : h.length + 1 = (h ++ [x]).length := by simp
          have hl2 : ((h.length + 1 + 1 : Nat) : Int) = (((h ++ [x]).length + 1 : Nat) : Int) := by simp
          refine qR ?_;refine rC ?_;refine rQ (neq_s (a := s) (b := []) tab_ok rfl rfl rfl) ?_;refine nS ?_;refine wT ?_;refine kS ?_;refine wc_seq ?_;refine wc_block ?_;refine sR ?_
          refine rC ?_;refine rQ (call_r hcut rfl rfl (arg_e (arg_e arg_nil)) (.inl rfl) (fun _ => rfl)) ?_;iterate 7 refine rC ?_
          refine nR ?_;refine rC ?_;refine rQ (call_r hev rfl rfl (arg_e arg_nil) (.inl rfl) (fun _ => rfl)) ?_;iterate 3 refine rC ?_
          refine rN ?_;refine rW ?_;refine rC ?_;refine nQ ?_;refine wc_block ?_;refine sR ?_;iterate 3 refine rC ?_
          refine rP ?_;refine rC ?_;refine rP ?_;refine rC ?_;refine rQ iG ?_;refine rC ?_;refine nS ?_;refine wG ?_;refine sR ?_;iterate 3 refine rC ?_
          refine nS ?_;refine wF ?_;refine sR ?_;refine rC ?_;refine rQ iM ?_;refine reg_do rfl (call_b [(0, some 64), (1, some 65)] (take_is rd x h.length hs.rok hn) rfl rfl rfl rfl (arg_ptr rfl rfl (arg_e arg_nil)) ⟨⟨rfl, rfl, _, _, rfl, rfl, .refl _⟩, ⟨rfl, rfl, _, _, rfl, rfl, .refl _⟩, trivial⟩ rfl rfl (.inl rfl) rfl rfl) rfl rfl ?_
          iterate 2 refine rC ?_
          refine nS ?_;refine wF ?_;refine wc_skip ?_;refine blk_n ?_;refine seq_n ?_;refine sR ?_;refine rC ?_;refine rQ iM ?_;refine rQ (call_r (own_is x hdx) rfl rfl (arg_e arg_nil) (.inl rfl) (fun _ => rfl)) ?_
          refine reg_new (build_slice (s := 38) tab_ok rfl rfl rfl rfl rfl rfl rfl rfl) rfl ?_;refine reg_new2 (append_one (enc := encEv) (s := 38) (xs := h) tab_ok x rfl rfl rfl rfl rfl rfl rfl rfl rfl hal rfl) rfl ?_
          refine rC ?_;refine nS ?_;refine wc_region ?_;iterate 2 refine rC ?_
          refine reg_nil ?_;refine blk_n ?_;refine seq_n ?_;refine wc_region ?_;refine rC ?_;refine rQ (add_int (m := ((h.length + 1 + 1 : Nat) : Int)) tab_ok rfl rfl hw1) ?_
          refine rC ?_;refine reg_nil ?_
          exact loop_n ((takeS rd x).1, h ++ [x], r) [(64, some 64), (65, some _), (66, some _)] ⟨by rw [← hl1]; exact hs.rok.next x, by rw [← hl1]; omega, show r.length ≤ 1048576 by omega, by rw [← hl1]; exact he⟩ (by show r.length < s.length; omega) (.of rfl rfl rfl rfl rfl ⟨⟨_, rfl, .refl _⟩, rfl, ⟨_, rfl, AVLe.of_eq (congrArg (fun n => AV.own _ 0 n 38 none) hl1)⟩, rfl, ⟨_, rfl, AVLe.of_eq (congrArg (fun n => AV.int .i64 n) hl2)⟩, rfl, ⟨_, rfl, .refl _⟩, rfl, trivial⟩ ⟨⟨rfl, rfl, _, rfl, .refl _⟩, ⟨rfl, rfl, _, rfl, .refl _⟩, ⟨rfl, rfl, _, rfl, .refl _⟩, trivial⟩)
end Go.Proofs.YtmojbghcngdkpaaGreatDoor

namespace Go.Proofs.YtmojbghcngdkpaaGreatDoor
open Go.Eng Go.Plain
set_option maxHeartbeats 8000000
set_option maxRecDepth 20000
set_option linter.unusedVariables false
attribute [local irreducible] WC RegS RegD SeqQ BlkQ ScoQ RegK CutK Sat SatN FnIs LoopQ StepIs OpIs
abbrev rhpR (l : List HEv) (n : Nat) (e : Int) : AV := .tup (.acons (.d (encH l)) (.acons (.int .i64 n) (.acons (.int .i64 e) .anil)))
structure RPInv (W : List (List UInt8)) (h : List HEv) (i : Nat) : Prop where
  len : h.length ≤ i
  i8 : i ≤ 8192
  iw : i < W.length
  eq : hparseR (W.drop i) i h = hparseR W 0 []
end Go.Proofs.YtmojbghcngdkpaaGreatDoor

namespace Go.Proofs.YtmojbghcngdkpaaGreatDoor
open Go.Eng Go.Plain
set_option maxHeartbeats 8000000
set_option maxRecDepth 50000
set_option linter.unusedVariables false
attribute [local irreducible] WC RegS RegD SeqQ BlkQ ScoQ RegK CutK Sat SatN FnIs LoopQ StepIs OpIs
def encNE (x : HEv) : D := .cons (u8s x.kind) (.cons (i6 x.client) (.cons (.cons (u8s x.op.kind) (.cons (i6 x.op.index) (.cons (.sc (.slice none 0 0)) .nil))) (.cons (encBk x.value) (.cons (i6 x.err) .nil))))
theorem encNE_le {x : HEv} (h : x.op.data = []) : DLe (encNE x) (encEv x) := by
  obtain ⟨k, c, ⟨ok, oi, od⟩, v, e⟩ := x
  simp only at h
  subst h
  rintro w X cs ⟨c1, r1, rfl, h1, c2, r2, rfl, h2, c3, r3, rfl, h3, h4⟩
  refine ⟨c1, _, rfl, h1, c2, _, rfl, h2, c3, _, rfl, ?_, h4⟩
  obtain ⟨d1, q1, rfl, g1, d2, q2, rfl, g2, d3, q3, rfl, ⟨rfl, _⟩, rfl⟩ := h3
  exact ⟨d1, _, rfl, g1, d2, _, rfl, g2, [.slice none 0 0], [], rfl, .inl ⟨rfl, rfl⟩, rfl⟩
theorem encNE_arr {l : List HEv} (h : ∀ x ∈ l, x.op.data = []) : DLe (.arr 38 encNE l) (encH l) := dle_arr (g := id) (by simp) fun x hx => encNE_le (h x hx)
def b7 : List UInt8 := List.replicate 32 7
def sampleL : List HEv := [⟨1, 0, ⟨1, 1, []⟩, zBk, 0⟩, ⟨1, 1, ⟨3, 0, []⟩, zBk, 0⟩, ⟨2, 0, zOp, b7, 0⟩, ⟨3, 0, zOp, zBk, 0⟩, ⟨1, 0, ⟨1, 1, []⟩, zBk, 0⟩]
theorem sample_is : FnIs Tryz.prog 53 [] [] (.d (encH sampleL)) [] := by
  refine fnIs_of tab_ok Tryz.func53 rfl rfl rfl ?_;refine sR ?_;refine rC ?_;refine nR ?_;refine rQ iS ?_;refine rN ?_;refine rW ?_;refine nR ?_;refine rN ?_;refine nQ ?_
  refine sR ?_;refine rC ?_;refine nS ?_;refine wc_block ?_
  refine wc_inv (fun i : Nat => ⟨[(1, .ptr 64 []), (2, .ptr 65 []), (3, .int .i64 (i : Nat))], [(64, some (.box 50 (.d (.cons (u8s 1) (.cons (i6 1) (.cons (.sc (.slice none 0 0)) .nil)))))), (65, some (.box 52 (.d (.vec 32 1 encU8 (fillL 7 32 i)))))], 120, Tryz.f53.ntmps, 64⟩) (fun i => i ≤ 32) (fun i => 32 - i) 0 [(64, some _), (65, some _)] (Nat.zero_le _)
    (.of rfl rfl rfl rfl rfl ⟨⟨_, rfl, .refl _⟩, rfl, ⟨_, rfl, .refl _⟩, rfl, ⟨_, rfl, .refl _⟩, rfl, trivial⟩ ⟨⟨rfl, rfl, _, rfl, .refl _⟩, ⟨rfl, rfl, _, rfl, .refl _⟩, trivial⟩) ?_
  intro i hi
  refine wc_of ?_
  by_cases hlt : i < 32
  · have c1 : decide ((i : Int) < 32) = true := decide_eq_true (by omega)
    have hg : (fillL 7 32 i)[((i : Int)).toNat]? = some 0 := by rw [Int.toNat_natCast]; exact fillL_get hlt
    have hs := fillL_set (d := 7) hlt
    refine qR ?_;iterate 2 refine rC ?_
    refine nS ?_;refine wT ?_;refine kS ?_;refine wc_seq ?_;refine wc_block ?_;refine wc_region ?_;refine rC ?_;refine rQ (step_C tab_ok (fun K hk => ⟨by omega, by omega, hk⟩)) ?_
    refine reg_store (store_row tab_ok rfl rfl rfl ⟨_, ⟨_, ⟨rfl, _, (7 : Int), hg, ⟨rfl, rfl, rfl⟩, rfl⟩, rfl⟩, rfl⟩ rfl) ?_;refine reg_nil ?_;refine blk_n ?_;refine seq_n ?_
    refine wc_region ?_;refine rC ?_;refine rQ iD ?_;refine rC ?_;refine reg_nil ?_
    exact loop_n (i + 1) [(64, some 64), (65, some 65)] hlt (by omega) (.of rfl rfl rfl rfl rfl ⟨⟨_, rfl, .refl _⟩, rfl, ⟨_, rfl, .refl _⟩, rfl, ⟨_, rfl, .refl _⟩, rfl, trivial⟩ ⟨⟨rfl, rfl, _, rfl, .refl _⟩, ⟨rfl, rfl, _, rfl, RowLe.of_eq (congrArg (fun l => Row.box 52 (.d (.vec 32 1 encU8 l))) hs)⟩, trivial⟩)
  · have c1 : decide ((i : Int) < 32) = false := decide_eq_false (by omega)
    have he : i = 32 := by omega
    subst he
    have hE : fillL 7 32 32 = byI b7 := fillL_end 7 32
    rw [hE]
    refine qR ?_;iterate 2 refine rC ?_
    refine nS ?_;refine wG ?_;refine wc_exit ?_;refine seq_x ?_;refine loop_x ?_;refine blk_x ?_;refine seq_n ?_;refine sR ?_;refine rQ iM ?_;iterate 3 refine rQ iS ?_
    refine rQ iM ?_;iterate 2 refine rQ iS ?_
    refine rQ iM ?_;refine rQ iS ?_;refine rQ (StepIs.frozen (build_slice (s := 38) tab_ok rfl rfl rfl rfl rfl rfl rfl rfl) (Frz.litsN (enc := encNE) sampleL rfl (fun _ _ => rfl))) ?_
    refine rC ?_;refine nS ?_;refine wc_ret ?_
    exact ⟨trivial, [], .of rfl rfl rfl rfl rfl ⟨⟨_, rfl, AVLe.d (encNE_arr (by decide)) rfl⟩, rfl, trivial⟩ trivial⟩
def t1L : List UInt8 := [114, 101, 116, 117, 114, 110, 32, 48, 32, 111, 107, 10]
def t2L : List UInt8 := [105, 110, 118, 111, 107, 101, 32, 56, 32, 102, 108, 117, 115, 104, 10]
def preL : List UInt8 := [105, 110, 118, 111, 107, 101, 32, 48, 32, 114, 101, 97, 100, 32, 49, 10, 105, 110, 118, 111, 107, 101, 32, 49, 32, 102, 108, 117, 115, 104, 10, 114, 101, 116, 117, 114, 110, 32, 48, 32, 111, 107, 32]
def postL : List UInt8 := [10, 99, 114, 97, 115, 104, 10, 105, 110, 118, 111, 107, 101, 32, 48, 32, 114, 101, 97, 100, 32, 49, 10]
def w07 : Nat → List UInt8
  | 0 => []
  | n + 1 => w07 n ++ [48, 55]
theorem w07_len : ∀ n, (w07 n).length = 2 * n
  | 0 => rfl
  | n + 1 => by rw [w07, List.length_append, w07_len n]; simp; omega
def e3 : List Int := [18, 18, 5]
theorem lives24_w (S : List HEv) (O : List HOp) (o0 o1 o2 : HOp) (EE : List (List HEv)) (E0 E1 P1 : List HEv) (T : List UInt8)
    (hS : FnIs Tryz.prog 53 [] [] (.d (encH S)) []) (h1S : 1 ≤ S.length)
    (hc : FnIs Tryz.prog 20 [.d (encH S)] [] (.tup (.acons (.int .i64 0) (.acons (.int .i64 0) .anil))) [])
    (hc1 : FnIs Tryz.prog 20 [.d (encH (S.drop 1))] [] (.tup (.acons (.int .i64 1) (.acons (.int .i64 18) .anil))) [])
    (ho : FnIs Tryz.prog 21 [.d (encH S)] [] (.tup (.acons (.d (encOX O)) (.acons (.int .i64 0) .anil))) [])
    (he : FnIs Tryz.prog 22 [.d (encH S)] [] (.tup (.acons (.d (.arx 1 encHX EE)) (.acons (.int .i64 0) .anil))) [])
    (hp : FnIs Tryz.prog 23 [.d (encH S), .int .i64 1] [] (.tup (.acons (.d (encHX P1)) (.acons (.int .i64 0) .anil))) [])
    (ht : FnIs Tryz.prog 24 [.d (encH S)] [] (.tup (.acons (.d (strD T)) (.acons (.int .i64 0) .anil))) [])
    (hO : O.length = 3) (hO0 : O[((0 : Int)).toNat]? = some o0) (hO1 : O[((1 : Int)).toNat]? = some o1) (hO2 : O[((2 : Int)).toNat]? = some o2)
    (hEE : EE.length = 2) (hE0 : EE[((0 : Int)).toNat]? = some E0) (hE1 : EE[((1 : Int)).toNat]? = some E1) (hl0 : E0.length = 3) (hl1 : E1.length = 1) (hlp : P1.length = 2)
    (hro : FnIs Tryz.prog 27 [.d (encH S)] [] (.d (encOps O)) [])
    (hso : FnIs Tryz.prog 26 [.d (encOps O), .d (encOps O)] [] (.d (i6 1)) [])
    (r0 : o0.returned = 2) (r1 : o1.returned = -1) (r2 : o2.number = 1) (r3 : o2.era = 1) (r4 : o2.invoked = 4)
    (hb01 : FnIs Tryz.prog 54 [.d (encOpn o0), .d (encOpn o1)] [] (.bool false) [])
    (hb12 : FnIs Tryz.prog 54 [.d (encOpn o1), .d (encOpn o2)] [] (.bool true) [])
    (hb20 : FnIs Tryz.prog 54 [.d (encOpn o2), .d (encOpn o0)] [] (.bool false) [])
    (hp1 : FnIs Tryz.prog 30 [.d (strD t1L)] [] (hpR [] 1 18) [])
    (hp2 : FnIs Tryz.prog 30 [.d (strD t2L)] [] (hpR [] 1 18) [])
    (hp3 : FnIs Tryz.prog 30 [.d (strD sCrash)] [] (hpR [] 1 5) [])
    (hT : T = preL ++ w07 32 ++ postL) : FnIs Tryz.prog 18 [] [] (.bool true) [] := by
  have f1 : (!decide ((O.length : Int) = 3)) = false := by rw [decide_eq_true (by omega)]; rfl
  have f2 : (!decide ((EE.length : Int) = 2)) = false := by rw [decide_eq_true (by omega)]; rfl
  have f3 : (!decide ((E0.length : Int) = 3)) = false := by rw [decide_eq_true (by omega)]; rfl
  have f4 : (!decide ((E1.length : Int) = 1)) = false := by rw [decide_eq_true (by omega)]; rfl
  have f5 : (!decide ((P1.length : Int) = 2)) = false := by rw [decide_eq_true (by omega)]; rfl
  have g0 : (!decide (o0.returned = 2)) = false := by rw [decide_eq_true r0]; rfl
  have g1 : (!decide (o1.returned = -1)) = false := by rw [decide_eq_true r1]; rfl
  have g2 : (!decide (o2.number = 1)) = false := by rw [decide_eq_true r2]; rfl
  have g3 : (!decide (o2.era = 1)) = false := by rw [decide_eq_true r3]; rfl
  have g4 : (!decide (o2.invoked = 4)) = false := by rw [decide_eq_true r4]; rfl
  refine fnIs_of tab_ok Tryz.func18 rfl rfl rfl ?_;refine sR ?_;refine rC ?_;refine nR ?_;refine rQ (call_r hS rfl rfl arg_nil (.inl rfl) (fun _ => rfl)) ?_;refine rC ?_
  refine nR ?_;refine rC ?_;refine rQ (call_r hc rfl rfl (arg_e arg_nil) (.inl rfl) (fun _ => rfl)) ?_;iterate 5 refine rC ?_
  refine nR ?_;refine rC ?_;refine rQ (slice_from (m := 1) tab_ok rfl rfl rfl rfl rfl h1S) ?_;refine rQ (call_r hc1 rfl rfl (arg_e arg_nil) (.inl rfl) (fun _ => rfl)) ?_
  iterate 5 refine rC ?_
  refine nR ?_;refine rC ?_;refine rQ (call_r ho rfl rfl (arg_e arg_nil) (.inl rfl) (fun _ => rfl)) ?_;iterate 5 refine rC ?_
  refine nR ?_;refine rC ?_;refine rQ (call_r he rfl rfl (arg_e arg_nil) (.inl rfl) (fun _ => rfl)) ?_;iterate 5 refine rC ?_
  refine nR ?_;refine rC ?_;refine rQ (call_r hp rfl rfl (arg_e (arg_e arg_nil)) (.inl rfl) (fun _ => rfl)) ?_;iterate 5 refine rC ?_
  refine nR ?_;refine rC ?_;refine rQ (call_r ht rfl rfl (arg_e arg_nil) (.inl rfl) (fun _ => rfl)) ?_;iterate 5 refine rC ?_
  refine nQ ?_;refine sR ?_;iterate 3 refine rC ?_
  refine rP ?_;refine rC ?_;refine rP ?_;refine rC ?_;refine rQ iG ?_;refine rC ?_;refine rP ?_;refine rC ?_;refine rP ?_;refine rC ?_;refine rQ iG ?_;refine rC ?_
  refine rP ?_;refine rC ?_;refine rP ?_;refine rC ?_;refine rQ iG ?_;refine rC ?_;refine rP ?_;refine rC ?_;refine rP ?_;refine rC ?_;refine rQ iG ?_;refine rC ?_
  refine rP ?_;refine rC ?_;refine rP ?_;refine rC ?_;refine rQ iG ?_;refine rC ?_;refine rP ?_;refine rC ?_;refine rP ?_;refine rC ?_;refine rQ iG ?_;refine rC ?_
  refine rP ?_;refine rC ?_;refine rP ?_;refine rC ?_;refine rQ iG ?_;refine rC ?_;refine rP ?_;refine rC ?_;refine rP ?_;refine rQ (len_arx tab_ok rfl rfl) ?_;refine rP ?_
  refine rC ?_;refine rQ iG ?_;refine rC ?_;refine rO ?_;refine rC ?_;refine rO ?_;refine rQ (len_arx tab_ok rfl rfl) ?_;refine rO ?_;refine rC ?_;refine rQ iF ?_
  refine rC ?_;refine rO ?_;refine rC ?_;refine rO ?_;refine rQ (index_arx tab_ok rfl rfl rfl rfl rfl (by omega) hE0) ?_;refine rO ?_;refine rQ iL ?_;refine rO ?_
  refine rQ (len_arx tab_ok rfl rfl) ?_;refine rO ?_;refine rC ?_;refine rQ iF ?_;refine rC ?_;refine rO ?_;refine rC ?_;refine rO ?_;refine rQ (index_arx tab_ok rfl rfl rfl rfl rfl (by omega) hE1) ?_
  refine rO ?_;refine rQ iL ?_;refine rO ?_;refine rQ (len_arx tab_ok rfl rfl) ?_;refine rO ?_;refine rC ?_;refine rQ iF ?_;refine rC ?_;refine rO ?_;refine rC ?_
  refine rO ?_;refine rQ (len_arx tab_ok rfl rfl) ?_;refine rO ?_;refine rC ?_;refine rQ iF ?_;refine nS ?_;refine wF ?_;refine kS ?_;refine qR ?_;iterate 2 refine rC ?_
  refine rQ (call_r hro rfl rfl (arg_e arg_nil) (.inl rfl) (fun _ => rfl)) ?_;refine rQ (call_r hso rfl rfl (arg_d rfl trivial DLe.arx_arr (arg_e arg_nil)) (.inl rfl) (fun _ => rfl)) ?_
  iterate 2 refine rC ?_
  refine rP ?_;refine rC ?_;refine rP ?_;refine rQ (index_arx (xs := O) tab_ok rfl rfl rfl rfl rfl (by omega) hO0) ?_;refine rP ?_;refine rC ?_;refine rP ?_;refine rQ iL ?_
  refine rP ?_;refine rC ?_;refine rQ iG ?_;refine rC ?_;refine rO ?_;refine rC ?_;refine rO ?_;refine rQ (index_arx (xs := O) tab_ok rfl rfl rfl rfl rfl (by omega) hO1) ?_
  refine rO ?_;refine rC ?_;refine rO ?_;refine rQ iL ?_;refine rO ?_;refine rC ?_;refine rQ iF ?_;refine rC ?_;refine rO ?_;refine rC ?_;refine rO ?_;refine rQ (index_arx (xs := O) tab_ok rfl rfl rfl rfl rfl (by omega) hO2) ?_
  refine rO ?_;refine rC ?_;refine rO ?_;refine rQ iL ?_;refine rO ?_;refine rC ?_;refine rQ iF ?_;refine rC ?_;refine rO ?_;refine rC ?_;refine rO ?_;refine rQ (index_arx (xs := O) tab_ok rfl rfl rfl rfl rfl (by omega) hO2) ?_
  refine rO ?_;refine rC ?_;refine rO ?_;refine rQ iL ?_;refine rO ?_;refine rC ?_;refine rQ iF ?_;refine rC ?_;refine rO ?_;refine rC ?_;refine rO ?_;refine rQ (index_arx (xs := O) tab_ok rfl rfl rfl rfl rfl (by omega) hO2) ?_
  refine rO ?_;refine rC ?_;refine rO ?_;refine rQ iL ?_;refine rO ?_;refine rC ?_;refine rQ iF ?_;refine nS ?_;refine wF ?_;refine kS ?_;iterate 2 refine wc_seq ?_
  refine wc_draw (by kernel_rfl) ?_;refine dC [6] [] ?_;refine dQ [152] [] (index_arx (xs := O) tab_ok rfl rfl rfl rfl rfl (by omega) hO0) ?_;refine dQ [153] [] iL ?_
  refine dC [6] [] ?_;refine dQ [155] [] (index_arx (xs := O) tab_ok rfl rfl rfl rfl rfl (by omega) hO1) ?_;refine dQ [156] [] iL ?_;refine dQ [154, 157] [] (call_r hb01 rfl rfl (arg_e (arg_e arg_nil)) (.inl rfl) (fun _ => rfl)) ?_
  refine dC [158] [] ?_;refine dreg_onq [159, 6] [] rfl rfl rfl rfl (step_C tab_ok (fun K hk => hk)) ?_;refine dreg_onq [159, 160] [] rfl rfl rfl rfl (index_arx (xs := O) tab_ok rfl rfl rfl rfl rfl (by omega) hO1) ?_
  refine dreg_onq [159, 161] [] rfl rfl rfl rfl (load_i tab_ok rfl rfl) ?_;refine dreg_onq [159, 6] [] rfl rfl rfl rfl (step_C tab_ok (fun K hk => hk)) ?_;refine dreg_onq [159, 163] [] rfl rfl rfl rfl (index_arx (xs := O) tab_ok rfl rfl rfl rfl rfl (by omega) hO2) ?_
  refine dreg_onq [159, 164] [] rfl rfl rfl rfl (load_i tab_ok rfl rfl) ?_;refine dreg_onq [159, 162, 165] [] rfl rfl rfl rfl (call_r hb12 rfl rfl (arg_e (arg_e arg_nil)) (.inl rfl) (fun _ => rfl)) ?_
  refine dreg_onq [159, 166] [] rfl rfl rfl rfl (step_C tab_ok (fun K hk => hk)) ?_;refine dQ [159, 167] [] iG ?_;refine dC [168] [] ?_;refine dreg_onq [169, 6] [] rfl rfl rfl rfl (step_C tab_ok (fun K hk => hk)) ?_
  refine dreg_onq [169, 170] [] rfl rfl rfl rfl (index_arx (xs := O) tab_ok rfl rfl rfl rfl rfl (by omega) hO2) ?_;refine dreg_onq [169, 171] [] rfl rfl rfl rfl (load_i tab_ok rfl rfl) ?_
  refine dreg_onq [169, 6] [] rfl rfl rfl rfl (step_C tab_ok (fun K hk => hk)) ?_;refine dreg_onq [169, 173] [] rfl rfl rfl rfl (index_arx (xs := O) tab_ok rfl rfl rfl rfl rfl (by omega) hO0) ?_
  refine dreg_onq [169, 174] [] rfl rfl rfl rfl (load_i tab_ok rfl rfl) ?_;refine dreg_onq [169, 172, 175] [] rfl rfl rfl rfl (call_r hb20 rfl rfl (arg_e (arg_e arg_nil)) (.inl rfl) (fun _ => rfl)) ?_
  refine dQ [169, 176] [] iG ?_;refine dreg_end (by kernel_rfl) ?_;refine seq_n ?_;refine wG ?_;refine kS ?_;refine sR ?_;refine rC ?_;refine nQ ?_;refine sR ?_;refine rC ?_
  refine nS ?_;refine wc_block ?_
  refine wc_inv (fun i : Nat => ⟨[(12, .d (strD T)), (14, .d (strD (w07 i))), (15, .int .i64 (i : Nat))], [], 2000, Tryz.f18.ntmps, 64⟩) (fun i => i ≤ 32) (fun i => 32 - i) 0 [] (Nat.zero_le _)
    (.of rfl rfl rfl rfl rfl ⟨⟨_, rfl, .refl _⟩, rfl, ⟨_, rfl, .refl _⟩, rfl, ⟨_, rfl, .refl _⟩, rfl, trivial⟩ trivial) ?_
  intro i hi
  refine wc_of ?_
  clear hS hc hc1 ho he hp ht hro hso hb01 hb12 hb20
  by_cases hlt : i < 32
  · have c1 : decide ((i : Int) < 32) = true := decide_eq_true (by omega)
    refine qR ?_;iterate 2 refine rC ?_
    refine nS ?_;refine wT ?_;refine kS ?_;refine wc_seq ?_;refine wc_block ?_;refine wc_region ?_;refine rC ?_
    refine rQ (add_str (a := w07 i) (b := [48, 55]) rfl rfl (by rw [w07_len]; simp; omega) rfl) ?_
    refine rC ?_;refine reg_nil ?_;refine blk_n ?_;refine seq_n ?_;refine wc_region ?_;refine rC ?_;refine rQ iD ?_;refine rC ?_;refine reg_nil ?_
    exact loop_n (i + 1) [] hlt (by omega) (.of rfl rfl rfl rfl rfl ⟨⟨_, rfl, .refl _⟩, rfl, ⟨_, rfl, .refl _⟩, rfl, ⟨_, rfl, .refl _⟩, rfl, trivial⟩ trivial)
  · have c1 : decide ((i : Int) < 32) = false := decide_eq_false (by omega)
    have hie : i = 32 := by omega
    subst hie
    refine qR ?_;iterate 2 refine rC ?_
    refine nS ?_;refine wG ?_;refine wc_exit ?_;refine seq_x ?_;refine loop_x ?_;refine blk_x ?_;refine seq_n ?_;refine qR ?_;refine rQ (StepIs.frozen (build_slice (s := 1) tab_ok rfl rfl rfl rfl rfl rfl rfl rfl) (Frz.litsN (enc := strD) [t1L, t2L, sCrash] rfl (fun _ _ => rfl))) ?_
    refine rQ iE ?_;refine rC ?_;refine nS ?_;refine wc_block ?_
    refine wc_inv (fun i : Nat => ⟨[(12, .d (strD T)), (14, .d (strD (w07 32))), (184, .d (.arr 1 strD [t1L, t2L, sCrash])), (185, .int .i64 3), (186, .int .i64 (i : Nat))], [], 3000, Tryz.f18.ntmps, 64⟩) (fun i => i ≤ 3) (fun i => 3 - i) 0 [] (Nat.zero_le _)
      (.of rfl rfl rfl rfl rfl ⟨⟨_, rfl, .refl _⟩, rfl, ⟨_, rfl, .refl _⟩, rfl, ⟨_, rfl, .refl _⟩, rfl, ⟨_, rfl, .refl _⟩, rfl, ⟨_, rfl, .refl _⟩, rfl, trivial⟩ trivial) ?_
    intro i hi
    refine wc_of ?_
    match i, hi with
    | 0, _ =>
      have hgx : [t1L, t2L, sCrash][(((0 : Nat) : Int)).toNat]? = some t1L := rfl
      have hpx := hp1
      refine sR ?_;refine rC ?_;refine nQ ?_;refine wV ?_;refine kS ?_;refine wc_seq ?_;refine wc_block ?_;refine sR ?_;refine rC ?_;refine rQ (index_arr tab_ok rfl rfl rfl rfl rfl (by omega) hgx) ?_
      refine rQ iL ?_;iterate 2 refine rC ?_
      refine nR ?_;refine rC ?_;refine rQ (call_r hpx rfl rfl (arg_e arg_nil) (.inl rfl) (fun _ => rfl)) ?_;iterate 7 refine rC ?_
      refine nR ?_;refine rC ?_;refine rQ (build_arr tab_ok rfl rfl rfl rfl rfl) ?_;refine rC ?_;refine rQ (step_C tab_ok (fun K hk => ⟨by decide, by decide, _, rfl, hk⟩)) ?_
      iterate 2 refine rC ?_
      refine rP ?_;refine rC ?_;refine rP ?_;refine rC ?_;refine rQ iG ?_;refine nS ?_;refine wG ?_;refine wc_skip ?_;refine blk_n ?_;refine seq_n ?_;refine wc_region ?_
      refine rQ iD ?_;refine rC ?_;refine reg_nil ?_
      exact loop_n 1 [] (by decide) (by decide) (.of rfl rfl rfl rfl rfl ⟨⟨_, rfl, .refl _⟩, rfl, ⟨_, rfl, .refl _⟩, rfl, ⟨_, rfl, .refl _⟩, rfl, ⟨_, rfl, .refl _⟩, rfl, ⟨_, rfl, .refl _⟩, rfl, trivial⟩ trivial)
    | 1, _ =>
      have hgx : [t1L, t2L, sCrash][(((1 : Nat) : Int)).toNat]? = some t2L := rfl
      have hpx := hp2
      refine sR ?_;refine rC ?_;refine nQ ?_;refine wV ?_;refine kS ?_;refine wc_seq ?_;refine wc_block ?_;refine sR ?_;refine rC ?_;refine rQ (index_arr tab_ok rfl rfl rfl rfl rfl (by omega) hgx) ?_
      refine rQ iL ?_;iterate 2 refine rC ?_
      refine nR ?_;refine rC ?_;refine rQ (call_r hpx rfl rfl (arg_e arg_nil) (.inl rfl) (fun _ => rfl)) ?_;iterate 7 refine rC ?_
      refine nR ?_;refine rC ?_;refine rQ (build_arr tab_ok rfl rfl rfl rfl rfl) ?_;refine rC ?_;refine rQ (step_C tab_ok (fun K hk => ⟨by decide, by decide, _, rfl, hk⟩)) ?_
      iterate 2 refine rC ?_
      refine rP ?_;refine rC ?_;refine rP ?_;refine rC ?_;refine rQ iG ?_;refine nS ?_;refine wG ?_;refine wc_skip ?_;refine blk_n ?_;refine seq_n ?_;refine wc_region ?_
      refine rQ iD ?_;refine rC ?_;refine reg_nil ?_
      exact loop_n 2 [] (by decide) (by decide) (.of rfl rfl rfl rfl rfl ⟨⟨_, rfl, .refl _⟩, rfl, ⟨_, rfl, .refl _⟩, rfl, ⟨_, rfl, .refl _⟩, rfl, ⟨_, rfl, .refl _⟩, rfl, ⟨_, rfl, .refl _⟩, rfl, trivial⟩ trivial)
    | 2, _ =>
      have hgx : [t1L, t2L, sCrash][(((2 : Nat) : Int)).toNat]? = some sCrash := rfl
      have hpx := hp3
      refine sR ?_;refine rC ?_;refine nQ ?_;refine wV ?_;refine kS ?_;refine wc_seq ?_;refine wc_block ?_;refine sR ?_;refine rC ?_;refine rQ (index_arr tab_ok rfl rfl rfl rfl rfl (by omega) hgx) ?_
      refine rQ iL ?_;iterate 2 refine rC ?_
      refine nR ?_;refine rC ?_;refine rQ (call_r hpx rfl rfl (arg_e arg_nil) (.inl rfl) (fun _ => rfl)) ?_;iterate 7 refine rC ?_
      refine nR ?_;refine rC ?_;refine rQ (build_arr tab_ok rfl rfl rfl rfl rfl) ?_;refine rC ?_;refine rQ (step_C tab_ok (fun K hk => ⟨by decide, by decide, _, rfl, hk⟩)) ?_
      iterate 2 refine rC ?_
      refine rP ?_;refine rC ?_;refine rP ?_;refine rC ?_;refine rQ iG ?_;refine nS ?_;refine wG ?_;refine wc_skip ?_;refine blk_n ?_;refine seq_n ?_;refine wc_region ?_
      refine rQ iD ?_;refine rC ?_;refine reg_nil ?_
      exact loop_n 3 [] (by decide) (by decide) (.of rfl rfl rfl rfl rfl ⟨⟨_, rfl, .refl _⟩, rfl, ⟨_, rfl, .refl _⟩, rfl, ⟨_, rfl, .refl _⟩, rfl, ⟨_, rfl, .refl _⟩, rfl, ⟨_, rfl, .refl _⟩, rfl, trivial⟩ trivial)
    | 3, _ =>
      have dT : decide (T = preL ++ w07 32 ++ postL) = true := decide_eq_true hT
      refine sR ?_;refine rC ?_;refine nQ ?_;refine wG ?_;refine wc_exit ?_;refine seq_x ?_;refine loop_x ?_;refine blk_x ?_;refine seq_n ?_;refine sR ?_;iterate 2 refine rC ?_
      refine rQ (add_str (a := preL) (b := w07 32) rfl rfl (by rw [w07_len]; decide) rfl) ?_
      refine rQ (add_str (a := preL ++ w07 32) (b := postL) rfl rfl (by rw [List.length_append, w07_len]; decide) rfl) ?_
      refine rQ (eql_s (a := T) (b := preL ++ w07 32 ++ postL) tab_ok rfl rfl rfl) ?_;refine rC ?_;refine nS ?_;refine wc_ret ?_
      exact ⟨trivial, [], .of rfl rfl rfl rfl rfl ⟨⟨_, rfl, AVLe.of_eq (congrArg AV.bool dT)⟩, rfl, trivial⟩ trivial⟩
    | i + 4, hi => exact absurd hi (by omega)
end Go.Proofs.YtmojbghcngdkpaaGreatDoor

namespace Go.Proofs.YtmojbghcngdkpaaGreatDoor
open Go.Eng Go.Plain
set_option maxRecDepth 50000
def sOps : List HOp := [⟨0, 0, 0, ⟨1, 1, []⟩, 0, 2, b7, 0⟩, ⟨1, 0, 0, ⟨3, 0, []⟩, 1, -1, zBk, 0⟩, ⟨0, 1, 1, ⟨1, 1, []⟩, 4, -1, zBk, 0⟩]
theorem sample_chk : chkH sampleL = (0, 0) := by decide +kernel
theorem sample_chk1 : chkH (sampleL.drop 1) = (1, 18) := by decide +kernel
theorem sample_ops : opsH sampleL = sOps := by decide +kernel
theorem sample_opsR : opsR sampleL = sOps := by decide +kernel
theorem sample_eras : erasG sampleL [] [] = [sampleL.take 3, sampleL.drop 4] := by decide +kernel
theorem sample_proj : sampleL.filter (projB 1) = [⟨1, 1, ⟨3, 0, []⟩, zBk, 0⟩, ⟨3, 0, zOp, zBk, 0⟩] := by decide +kernel
theorem sample_text : textE sampleL = preL ++ w07 32 ++ postL := by decide +kernel
theorem sample_ok : ∀ x ∈ sampleL, x.Ok ∧ x.op.data.length ≤ 64 := by
  have h : ∀ x ∈ sampleL, (0 ≤ x.kind ∧ x.kind ≤ 255) ∧ (-9223372036854775808 ≤ x.client ∧ x.client ≤ 9223372036854775807) ∧ (0 ≤ x.op.kind ∧ x.op.kind ≤ 255) ∧ (-9223372036854775808 ≤ x.op.index ∧ x.op.index ≤ 9223372036854775807) ∧ x.value.length = 32 ∧ (-9223372036854775808 ≤ x.err ∧ x.err ≤ 9223372036854775807) ∧ x.op.data.length ≤ 64 := by decide +kernel
  intro x hx
  obtain ⟨h1, h2, h3, h4, h5, h6, h7⟩ := h x hx
  exact ⟨⟨h1, h2, ⟨h3, h4⟩, h5, h6⟩, h7⟩
theorem l1_no (x : HEv) (hw : WfE x) (hl : lineE x ++ [10] = t1L) (ht : (takeS rd0 x).2 = false) : hparse t1L rd0 [] 1 = ([], 1, 18) := by
  have hc : cutL t1L 10 = some (lineE x, []) := by rw [← hl]; exact cutL_is _ (line_no10 hw)
  rw [hparse_some _ _ _ (by decide) hc, evP_line hw]
  simp only
  rw [if_neg (by decide), ht]
  rfl
theorem l2_no (x : HEv) (hw : WfE x) (hl : lineE x ++ [10] = t2L) (ht : (takeS rd0 x).2 = false) : hparse t2L rd0 [] 1 = ([], 1, 18) := by
  have hc : cutL t2L 10 = some (lineE x, []) := by rw [← hl]; exact cutL_is _ (line_no10 hw)
  rw [hparse_some _ _ _ (by decide) hc, evP_line hw]
  simp only
  rw [if_neg (by decide), ht]
  rfl
theorem l3_no : hparse sCrash rd0 [] 1 = ([], 1, 5) := hparse_none _ _ _ (by decide) (by decide)
theorem lives24_is : FnIs Tryz.prog 18 [] [] (.bool true) [] := by
  have hc := hcheck_is sampleL (by decide)
  rw [sample_chk] at hc
  have hc1 := hcheck_is (sampleL.drop 1) (by decide)
  rw [sample_chk1] at hc1
  have ho := hops_is sampleL (by decide) (by rw [show (rdH sampleL).all = sOps by decide +kernel]; decide)
  rw [sample_ops, sample_chk] at ho
  have he := heras_is sampleL (by decide) (fun x hx => Nat.le_trans (sample_ok x hx).2 (by decide))
  rw [sample_chk, if_pos rfl, sample_eras] at he
  have hp := hproj_is sampleL 1 (by decide) (fun x hx => Nat.le_trans (sample_ok x hx).2 (by decide))
  rw [show projE 1 sampleL = 0 by rw [projE, sample_chk]; decide, if_pos rfl, sample_proj] at hp
  have ht := htext_is sampleL (by decide) (fun _ => by decide) (fun _ => sample_ok) (fun _ => by rw [sample_text]; decide)
  rw [sample_chk, if_pos rfl] at ht
  have hro := rops_is sampleL (by decide)
  rw [sample_opsR] at hro
  have hso := sameops_is sOps sOps (by decide)
  rw [if_pos rfl] at hso
  have hb01 := before_is ⟨0, 0, 0, ⟨1, 1, []⟩, 0, 2, b7, 0⟩ ⟨1, 0, 0, ⟨3, 0, []⟩, 1, -1, zBk, 0⟩
  have hb12 := before_is ⟨1, 0, 0, ⟨3, 0, []⟩, 1, -1, zBk, 0⟩ ⟨0, 1, 1, ⟨1, 1, []⟩, 4, -1, zBk, 0⟩
  have hb20 := before_is ⟨0, 1, 1, ⟨1, 1, []⟩, 4, -1, zBk, 0⟩ ⟨0, 0, 0, ⟨1, 1, []⟩, 0, 2, b7, 0⟩
  have hp1 := hparse_main t1L (by decide)
  rw [l1_no ⟨2, 0, zOp, zBk, 0⟩ ⟨by decide, by decide, .inr (.inr ⟨rfl, rfl, rfl, rfl, fun h => absurd rfl h⟩)⟩ (by decide +kernel) (by decide +kernel)] at hp1
  have hp2 := hparse_main t2L (by decide)
  rw [l2_no ⟨1, 8, ⟨3, 0, []⟩, zBk, 0⟩ ⟨by decide, by decide, .inr (.inl ⟨rfl, rfl, rfl, ⟨by decide, by decide⟩, by decide⟩)⟩ (by decide +kernel) (by decide +kernel)] at hp2
  have hp3 := hparse_main sCrash (by decide)
  rw [l3_no] at hp3
  exact lives24_w sampleL sOps _ _ _ _ _ _ _ (textE sampleL) sample_is (by decide) hc hc1 ho he hp ht rfl rfl rfl rfl rfl rfl rfl rfl rfl rfl hro hso rfl rfl rfl rfl rfl hb01 hb12 hb20 hp1 hp2 hp3 sample_text
end Go.Proofs.YtmojbghcngdkpaaGreatDoor

namespace Go.Proofs.YtmojbghcngdkpaaGreatDoor
open Go.Eng Go.Plain
set_option linter.unusedVariables false
theorem take_wf {s : RdS} {n : Nat} (hs : s.Ok n) {x : HEv} (hx : x.Ok) (h : (takeS s x).2 = true) : WfE x := by
  refine ⟨hx.client.1, hx.client.2, ?_⟩
  rcases take_kind h with ⟨k, hi⟩ | ⟨k, hi⟩ | ⟨k, hi⟩
  · obtain ⟨_, _, _, h1, h2, h3⟩ := inv1_out hi
    exact .inr (.inl ⟨k, h2, h3, hx.op, h1⟩)
  · obtain ⟨_, _, h1, h2, b, o, _, _, _, _, h3⟩ := ret1_out hs hi
    refine .inr (.inr ⟨k, h1, h2, hx.value, fun hz => ?_⟩)
    rcases h3 with h3 | ⟨_, h3⟩
    · exact absurd h3 hz
    · exact h3
  · simp only [crash1, Bool.and_eq_true, decide_eq_true_eq] at hi
    exact .inl ⟨k, hi.1.1.1, hi.1.1.2, hi.1.2, hi.2⟩
theorem goS_wf : ∀ (h : List HEv) (s : RdS) (n i : Nat), s.Ok n → (∀ x ∈ h, x.Ok) → (goS s h i).2 < 0 → ∀ x ∈ h, WfE x
  | [], s, n, i, _, _, _, x, hx => by cases hx
  | y :: h, s, n, i, hs, hok, hg, x, hx => by
    rw [goS_take] at hg
    cases hb : (takeS s y).2 with
    | false => rw [hb] at hg; simp at hg; omega
    | true =>
      rw [hb, if_pos rfl] at hg
      rcases List.mem_cons.1 hx with rfl | hx
      · exact take_wf hs (hok x (by simp)) hb
      · exact goS_wf h _ (n + 1) (i + 1) (hs.next y) (fun z hz => hok z (by simp [hz])) hg x hx
theorem chk_go {h : List HEv} (hc : (chkH h).2 = 0) : h.length ≤ 8192 ∧ (goS rd0 h 0).2 < 0 ∧ (chkH h).1 = 0 := by
  unfold chkH at hc ⊢
  by_cases h8 : 8192 < h.length
  · rw [if_pos h8] at hc; cases hc
  · rw [if_neg h8] at hc ⊢
    by_cases h0 : 0 ≤ (goS rd0 h 0).2
    · rw [if_pos h0] at hc; cases hc
    · rw [if_neg h0]
      exact ⟨by omega, by omega, rfl⟩
theorem chk_wf {h : List HEv} (hok : ∀ x ∈ h, x.Ok) (hc : (chkH h).2 = 0) : ∀ x ∈ h, WfE x := by
  obtain ⟨_, h2, _⟩ := chk_go hc
  exact goS_wf h rd0 0 0 rd0_ok hok h2
theorem wf_data {x : HEv} (h : WfE x) : x.op.data.length ≤ 64 := by
  rcases h.2.2 with h | h | h
  · rw [h.2.2.1]; decide
  · exact h.2.2.2.2
  · rw [h.2.1]; decide
theorem wordE_len (e : Int) : (wordE e).length ≤ 9 := by
  unfold wordE
  repeat' split
  all_goals decide
theorem lineE_len {x : HEv} (h : WfE x) : (lineE x).length ≤ 300 := by
  have hi := itoa_len h.1 h.2.1
  rcases h.2.2 with ⟨h1, _⟩ | ⟨h1, _, _, h4, h5⟩ | ⟨h1, _, h3, h4, h5⟩
  · rw [lineE, if_pos h1]; decide
  · have := line_len h4
    rw [line_inv x h1]
    simp [sInvoke]
    omega
  · by_cases hz : x.value = zBk
    · rw [line_ret0 x h1 hz]
      have := wordE_len x.err
      simp [sReturn]
      omega
    · rw [line_ret1 x h1 hz]
      have := hexP_len x.value
      simp [sReturn, sOk]
      omega
theorem textE_len : ∀ (h : List HEv), (∀ x ∈ h, WfE x) → (textE h).length ≤ 301 * h.length
  | [], _ => by simp [textE]
  | x :: h, hw => by
    have h1 := lineE_len (hw x (by simp))
    have h2 := textE_len h (fun y hy => hw y (by simp [hy]))
    simp only [textE, List.flatMap_cons, List.length_append, List.length_cons, List.length_nil] at h2 ⊢
    omega
def AllFit (h : List HEv) : Prop := ∀ i x, h[i]? = some x → fitB (h.take i) x = true
theorem allFit_nil : AllFit [] := fun i x h => by simp at h
theorem AllFit.snoc {h : List HEv} {x : HEv} (H : AllFit h) (hx : fitB h x = true) : AllFit (h ++ [x]) := by
  intro i y hy
  by_cases hi : i < h.length
  · rw [List.getElem?_append_left hi] at hy
    rw [List.take_append_of_le_length (by omega)]
    exact H i y hy
  · have hlt := (List.getElem?_eq_some_iff.1 hy).1
    have he : i = h.length := by simp at hlt; omega
    subst he
    rw [List.getElem?_append_right (by omega), Nat.sub_self] at hy
    simp at hy
    subst hy
    rw [List.take_left']
    · exact hx
    · rfl
theorem rchk_fit {h : List HEv} (H : AllFit h) : ∀ (n i : Nat), rchkG h n i = (0, 0)
  | 0, i => rfl
  | n + 1, i => by
    rw [rchkG]
    cases hx : h[i]? with
    | none => rfl
    | some x =>
      simp only
      rw [H i x hx, if_pos rfl]
      exact rchk_fit H n (i + 1)
theorem chk_fit {h : List HEv} (H : AllFit h) (hl : h.length ≤ 8192) : chkH h = (0, 0) := by
  rw [chk_same, rchk, if_neg (by omega)]
  exact rchk_fit H _ _
theorem errs8_kn : ∀ e ∈ errs8, kn4 e = true := by decide
theorem errX_kn (y : HEv) (x : XE) : kn4 (errX y x) = true := by
  unfold errX
  split
  · rfl
  · obtain ⟨e, he⟩ : ∃ e, errs8[x.what.toNat % 8]? = some e := ⟨_, List.getElem?_eq_getElem (Nat.mod_lt _ (by decide))⟩
    rw [he]
    exact errs8_kn e (List.mem_of_getElem? he)
theorem opX_data (x : XE) : (opX x).data.length ≤ 64 := by
  unfold opX
  split
  · simp
  split
  · simp
  split
  · simp
  · have := qof_data ⟨8, x.data, x.what⟩; omega
theorem opX_ok (x : XE) : (opX x).Ok := by
  have h2 := x.data.toNat_lt
  unfold opX
  split
  · exact ⟨⟨by show (0 : Int) ≤ 1; decide, by show (1 : Int) ≤ (255 : Int); decide⟩, ⟨by show -9223372036854775808 ≤ ((x.data.toNat / 4 % 3 : Nat) : Int); omega, by show ((x.data.toNat / 4 % 3 : Nat) : Int) ≤ 9223372036854775807; omega⟩⟩
  split
  · exact ⟨⟨by show (0 : Int) ≤ 2; decide, by show (2 : Int) ≤ (255 : Int); decide⟩, ⟨by show -9223372036854775808 ≤ ((x.data.toNat / 4 % 3 : Nat) : Int); omega, by show ((x.data.toNat / 4 % 3 : Nat) : Int) ≤ 9223372036854775807; omega⟩⟩
  split
  · exact ⟨⟨by decide, by decide⟩, ⟨by decide, by decide⟩⟩
  · exact qof_ok _
theorem zop_ok' : zOp.Ok := ⟨by decide, by decide⟩
theorem stepX_fit {out : List HEv} (x : XE) (H : AllFit out) (hok : ∀ y ∈ out, y.Ok) : AllFit (stepX out x) ∧ ∀ y ∈ stepX out x, y.Ok := by
  have app : ∀ (e : HEv), fitB out e = true → e.Ok → AllFit (out ++ [e]) ∧ ∀ y ∈ out ++ [e], y.Ok := fun e h1 h2 => ⟨H.snoc h1, fun y hy => by
    rcases List.mem_append.1 hy with hy | hy
    · exact hok y hy
    · rw [List.mem_singleton.1 hy]; exact h2⟩
  unfold stepX
  split
  · exact app _ rfl ⟨show (0 : Int) ≤ 3 ∧ (3 : Int) ≤ 255 by decide, show (-9223372036854775808 : Int) ≤ 0 ∧ (0 : Int) ≤ 9223372036854775807 by decide, zop_ok', rfl, show (-9223372036854775808 : Int) ≤ 0 ∧ (0 : Int) ≤ 9223372036854775807 by decide⟩
  · split
    · rename_i hp
      refine app _ ?_ ⟨show (0 : Int) ≤ 1 ∧ (1 : Int) ≤ 255 by decide, show (-9223372036854775808 : Int) ≤ ((x.who.toNat % 4 % 3 : Nat) : Int) ∧ ((x.who.toNat % 4 % 3 : Nat) : Int) ≤ 9223372036854775807 by omega, opX_ok x, rfl, show (-9223372036854775808 : Int) ≤ 0 ∧ (0 : Int) ≤ 9223372036854775807 by decide⟩
      rw [fitB, if_pos rfl, fit1]
      simp only [Bool.and_eq_true, decide_eq_true_eq]
      exact ⟨⟨⟨⟨⟨by omega, by omega⟩, hp⟩, opX_data x⟩, trivial⟩, trivial⟩
    · rename_i hp
      split
      · exact ⟨H, hok⟩
      · rename_i y hy
        have hk := errX_kn y x
        have hkr := kn4_out hk
        refine app _ ?_ ⟨show (0 : Int) ≤ 2 ∧ (2 : Int) ≤ 255 by decide, show (-9223372036854775808 : Int) ≤ ((x.who.toNat % 4 % 3 : Nat) : Int) ∧ ((x.who.toNat % 4 % 3 : Nat) : Int) ≤ 9223372036854775807 by omega, zop_ok', ?_, ?_⟩
        · rw [fitB, if_neg (show ¬ (2 : Int) = 1 by decide), if_pos rfl, fit2]
          simp only [Bool.and_eq_true, Bool.or_eq_true, decide_eq_true_eq, Bool.not_eq_true', decide_eq_false_iff_not]
          refine ⟨⟨⟨⟨⟨by omega, by omega⟩, hp⟩, trivial⟩, hk⟩, ?_⟩
          rw [hy]
          simp only [Bool.and_eq_true, decide_eq_true_eq]
          by_cases hc : y.op.kind = 1 ∧ errX y x = 0
          · exact .inl hc
          · exact .inr (by rw [if_neg hc])
        · show (if y.op.kind = 1 ∧ errX y x = 0 then List.replicate 32 (blkB x.data) else zBk).length = 32
          split
          · simp
          · rfl
        · show -9223372036854775808 ≤ errX y x ∧ errX y x ≤ 9223372036854775807
          omega
theorem foldX_fit : ∀ (l : List XE) (out : List HEv), AllFit out → (∀ y ∈ out, y.Ok) → AllFit (l.foldl stepX out) ∧ ∀ y ∈ l.foldl stepX out, y.Ok
  | [], out, H, hok => ⟨H, hok⟩
  | x :: l, out, H, hok => by
    obtain ⟨h1, h2⟩ := stepX_fit x H hok
    exact foldX_fit l _ h1 h2
theorem hOf_fit (l : List XE) : AllFit (hOf l) := (foldX_fit _ [] allFit_nil (fun y hy => by cases hy)).1
theorem hOf_ok (l : List XE) : ∀ y ∈ hOf l, y.Ok := (foldX_fit _ [] allFit_nil (fun y hy => by cases hy)).2
theorem hOf_len (l : List XE) : (hOf l).length ≤ 24 := by
  have := foldX_len (l.take 24) []
  rw [List.length_take] at this
  unfold hOf
  simp at this
  omega
theorem hOf_chk (l : List XE) : chkH (hOf l) = (0, 0) := chk_fit (hOf_fit l) (by have := hOf_len l; omega)
theorem hOf_wf (l : List XE) : ∀ y ∈ hOf l, WfE y := chk_wf (hOf_ok l) (by rw [hOf_chk])
end Go.Proofs.YtmojbghcngdkpaaGreatDoor

namespace Go.Proofs.YtmojbghcngdkpaaGreatDoor
open Go.Eng Go.Plain
set_option maxHeartbeats 8000000
set_option maxRecDepth 20000
set_option linter.unusedVariables false
attribute [local irreducible] WC RegS RegD SeqQ BlkQ ScoQ RegK CutK Sat SatN FnIs LoopQ StepIs OpIs
end Go.Proofs.YtmojbghcngdkpaaGreatDoor

namespace Go.Proofs.YtmojbghcngdkpaaGreatDoor
open Go.Eng Go.Plain
set_option maxHeartbeats 8000000
set_option maxRecDepth 20000
set_option linter.unusedVariables false
attribute [local irreducible] WC RegS RegD SeqQ BlkQ ScoQ RegK CutK Sat SatN FnIs LoopQ StepIs OpIs
theorem hof_is (l : List XE) : FnIs Tryz.prog 25 [.d (encXH l)] [] (.d (encH (hOf l))) [] :=
  (hof_own l).freeze_out 64 _ rfl (Frz.own rfl) trivial
structure HOk (h : List HEv) : Prop where
  len : h.length ≤ 24
  chk : chkH h = (0, 0)
  ok : ∀ x ∈ h, x.Ok
  wf : ∀ x ∈ h, WfE x
theorem hof_good (l : List XE) : HOk (hOf l) := ⟨hOf_len l, hOf_chk l, hOf_ok l, hOf_wf l⟩
theorem rtext_wf {h : List HEv} (hw : ∀ x ∈ h, WfE x) : rtextE h = textE h := by
  unfold rtextE textE
  induction h with
  | nil => rfl
  | cons x h ih => rw [List.flatMap_cons, List.flatMap_cons, rline_wf (hw x (by simp)), ih (fun y hy => hw y (by simp [hy]))]
theorem law24_text (x y : List XE) : FnIs Tryz.prog 7 [.d (encXH x), .d (encXH y)] [] (.bool true) [] := by
  have hx := hof_is x
  have hy := hof_is y
  obtain ⟨l1, c1, k1, w1⟩ := hof_good x
  obtain ⟨l2, c2, k2, w2⟩ := hof_good y
  generalize hOf x = h at *
  generalize hOf y = g at *
  have hT := textE_len h w1
  have htx := htext_is h (by omega) (fun _ => by omega) (fun _ z hz => ⟨k1 z hz, wf_data (w1 z hz)⟩) (fun _ => by omega)
  rw [c1, if_pos rfl] at htx
  have hpp := hparse_main (textE h) (by omega)
  have hgo := (chk_go (h := h) (by rw [c1])).2.1
  rw [show textE h = h.flatMap (fun x => lineE x ++ [10]) from rfl, hparse_back h rd0 [] 1 0 w1 (by omega) hgo, List.nil_append] at hpp
  have hrt := rtext24_is h (by omega) (fun z hz => ⟨k1 z hz, by have := wf_data (w1 z hz); omega⟩) (by rw [rtext_wf w1]; omega)
  rw [rtext_wf w1] at hrt
  have hsm := hrsame_is h h (by omega)
  rw [if_pos rfl] at hsm
  have hs1 := hsame_is h h (by omega)
  rw [decide_eq_true (rfl : h = h)] at hs1
  have hs2 := hsame_is h g (by omega)
  have hs3 := hrsame_is h g (by omega)
  rw [show h.flatMap (fun x => lineE x ++ [10]) = textE h from rfl] at hpp
  generalize textE h = s at *
  have q1 : (!decide (s = s)) = false := by rw [decide_eq_true rfl]; rfl
  have q2 : (!decide ((h.length : Int) = (h.length : Int))) = false := by rw [decide_eq_true rfl]; rfl
  refine fnIs_of tab_ok Tryz.func7 rfl rfl rfl ?_
  by_cases hq : h = g
  · rw [if_pos hq] at hs3
    rw [decide_eq_true hq] at hs2
    refine sR ?_;iterate 2 refine rN ?_
    refine rC ?_;refine nQ ?_;refine wc_draw (by kernel_rfl) ?_;refine dQ [2] [64] iM ?_;refine dQ [12] [] (call_r hx rfl rfl (arg_e arg_nil) (.inl rfl) (fun _ => rfl)) ?_
    refine dQ [3] [72] iM ?_;refine dQ [14] [] (call_r hy rfl rfl (arg_e arg_nil) (.inl rfl) (fun _ => rfl)) ?_;refine dC [13] [] ?_;refine dC [15] [] ?_;refine dreg_end (by kernel_rfl) ?_
    refine seq_n ?_;refine sR ?_;refine rC ?_;refine rQ (call_r htx rfl rfl (arg_e arg_nil) (.inl rfl) (fun _ => rfl)) ?_;iterate 5 refine rC ?_
    refine nR ?_;refine rC ?_;refine rQ (call_r hpp rfl rfl (arg_e arg_nil) (.inl rfl) (fun _ => rfl)) ?_;iterate 7 refine rC ?_
    refine nQ ?_;refine sR ?_;iterate 3 refine rC ?_
    refine rP ?_;refine rC ?_;refine rP ?_;refine rC ?_;refine rQ iG ?_;refine rC ?_;refine rP ?_;refine rC ?_;refine rP ?_;refine rC ?_;refine rQ iG ?_;refine rC ?_
    refine rP ?_;refine rC ?_;refine rP ?_;refine rC ?_;refine rP ?_;refine rQ (call_r hrt rfl rfl (arg_e arg_nil) (.inl rfl) (fun _ => rfl)) ?_;refine rP ?_;refine rQ (neq_s (a := s) (b := s) tab_ok rfl rfl rfl) ?_
    refine rQ iG ?_;refine rC ?_;refine rO ?_;refine rC ?_;refine rO ?_;refine rC ?_;refine rO ?_;refine rQ (call_r hsm rfl rfl (arg_d rfl trivial DLe.arx_arr (arg_e arg_nil)) (.inl rfl) (fun _ => rfl)) ?_
    refine rO ?_;refine rC ?_;refine rQ iF ?_;refine rC ?_;refine rP ?_;refine rC ?_;refine rP ?_;refine rQ (cap_arx tab_ok rfl rfl) ?_;refine rP ?_;refine rC ?_;refine rP ?_
    refine rQ (len_arx tab_ok rfl rfl) ?_;refine rP ?_;refine rC ?_;refine rQ iG ?_;refine nS ?_;refine wF ?_;refine kS ?_;refine sR ?_;iterate 2 refine rC ?_
    refine rQ (call_r hs1 rfl rfl (arg_e (arg_d rfl trivial DLe.arx_arr arg_nil)) (.inl rfl) (fun _ => rfl)) ?_;refine rC ?_;refine rP ?_;refine rC ?_;refine rP ?_;refine rC ?_
    refine rP ?_;refine rQ (call_r hs2 rfl rfl (arg_e (arg_e arg_nil)) (.inl rfl) (fun _ => rfl)) ?_;refine rP ?_;refine rC ?_;refine rP ?_;refine rC ?_;refine rP ?_
    refine rQ (call_r hs3 rfl rfl (arg_e (arg_e arg_nil)) (.inl rfl) (fun _ => rfl)) ?_;refine rP ?_;refine rC ?_;refine rP ?_;refine rC ?_;refine rQ iU ?_;refine rC ?_
    refine rP ?_;refine rQ (call_r lives24_is rfl rfl arg_nil (.inl rfl) (fun _ => rfl)) ?_;refine rQ iU ?_;refine rC ?_;refine nS ?_;refine wc_ret ?_
    exact ⟨trivial, [], lf⟩
  · rw [if_neg hq] at hs3
    rw [decide_eq_false hq] at hs2
    refine sR ?_;iterate 2 refine rN ?_
    refine rC ?_;refine nQ ?_;refine wc_draw (by kernel_rfl) ?_;refine dQ [2] [64] iM ?_;refine dQ [12] [] (call_r hx rfl rfl (arg_e arg_nil) (.inl rfl) (fun _ => rfl)) ?_
    refine dQ [3] [72] iM ?_;refine dQ [14] [] (call_r hy rfl rfl (arg_e arg_nil) (.inl rfl) (fun _ => rfl)) ?_;refine dC [13] [] ?_;refine dC [15] [] ?_;refine dreg_end (by kernel_rfl) ?_
    refine seq_n ?_;refine sR ?_;refine rC ?_;refine rQ (call_r htx rfl rfl (arg_e arg_nil) (.inl rfl) (fun _ => rfl)) ?_;iterate 5 refine rC ?_
    refine nR ?_;refine rC ?_;refine rQ (call_r hpp rfl rfl (arg_e arg_nil) (.inl rfl) (fun _ => rfl)) ?_;iterate 7 refine rC ?_
    refine nQ ?_;refine sR ?_;iterate 3 refine rC ?_
    refine rP ?_;refine rC ?_;refine rP ?_;refine rC ?_;refine rQ iG ?_;refine rC ?_;refine rP ?_;refine rC ?_;refine rP ?_;refine rC ?_;refine rQ iG ?_;refine rC ?_
    refine rP ?_;refine rC ?_;refine rP ?_;refine rC ?_;refine rP ?_;refine rQ (call_r hrt rfl rfl (arg_e arg_nil) (.inl rfl) (fun _ => rfl)) ?_;refine rP ?_;refine rQ (neq_s (a := s) (b := s) tab_ok rfl rfl rfl) ?_
    refine rQ iG ?_;refine rC ?_;refine rO ?_;refine rC ?_;refine rO ?_;refine rC ?_;refine rO ?_;refine rQ (call_r hsm rfl rfl (arg_d rfl trivial DLe.arx_arr (arg_e arg_nil)) (.inl rfl) (fun _ => rfl)) ?_
    refine rO ?_;refine rC ?_;refine rQ iF ?_;refine rC ?_;refine rP ?_;refine rC ?_;refine rP ?_;refine rQ (cap_arx tab_ok rfl rfl) ?_;refine rP ?_;refine rC ?_;refine rP ?_
    refine rQ (len_arx tab_ok rfl rfl) ?_;refine rP ?_;refine rC ?_;refine rQ iG ?_;refine nS ?_;refine wF ?_;refine kS ?_;refine sR ?_;iterate 2 refine rC ?_
    refine rQ (call_r hs1 rfl rfl (arg_e (arg_d rfl trivial DLe.arx_arr arg_nil)) (.inl rfl) (fun _ => rfl)) ?_;refine rC ?_;refine rP ?_;refine rC ?_;refine rP ?_;refine rC ?_
    refine rP ?_;refine rQ (call_r hs2 rfl rfl (arg_e (arg_e arg_nil)) (.inl rfl) (fun _ => rfl)) ?_;refine rP ?_;refine rC ?_;refine rP ?_;refine rC ?_;refine rP ?_
    refine rQ (call_r hs3 rfl rfl (arg_e (arg_e arg_nil)) (.inl rfl) (fun _ => rfl)) ?_;refine rP ?_;refine rC ?_;refine rP ?_;refine rC ?_;refine rQ iU ?_;refine rC ?_
    refine rP ?_;refine rQ (call_r lives24_is rfl rfl arg_nil (.inl rfl) (fun _ => rfl)) ?_;refine rQ iU ?_;refine rC ?_;refine nS ?_;refine wc_ret ?_
    exact ⟨trivial, [], lf⟩
end Go.Proofs.YtmojbghcngdkpaaGreatDoor

namespace Go.Proofs.YtmojbghcngdkpaaGreatDoor
open Go.Eng Go.Plain
theorem opens_x : Opens Tryz.prog 70 3 encXE fun _ => True :=
  Opens.map (opens_struct (P := Tryz.prog) Tryz.underlying70 (by kernel_rfl) (fun _ => rfl) (opensF_cons rfl (by kernel_rfl) (opens_int (P := Tryz.prog) Tryz.underlying5) (opensF_cons rfl (by kernel_rfl) (opens_int (P := Tryz.prog) Tryz.underlying5) (opensF_cons rfl (by kernel_rfl) (opens_int (P := Tryz.prog) Tryz.underlying5) opensF_nil))))
    (fun q => ⟨q.1.toNat.toUInt8, q.2.1.toNat.toUInt8, q.2.2.1.toNat.toUInt8⟩) (fun q h => by simp only [encXE, u8_back h.1, u8_back h.2.1, u8_back h.2.2.1]) (fun _ _ => trivial)
theorem opens_xh : Opens Tryz.prog 43 1 encXH fun _ => True :=
  Opens.map (opens_struct (P := Tryz.prog) Tryz.underlying43 (by kernel_rfl) (fun _ => rfl) (opensF_cons rfl (by kernel_rfl)
    (opens_slice (P := Tryz.prog) Tryz.underlying41 (by kernel_rfl) opens_x) opensF_nil))
    (fun q => q.1) (fun _ _ => rfl) (fun _ _ => trivial)
end Go.Proofs.YtmojbghcngdkpaaGreatDoor
