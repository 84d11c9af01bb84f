/- Texts of the proof: P20, P21, P22, P23, P24, P25, P26, P27, P28, PY, P29, P30, Eng78, P31, P32, P33, P34, PZ, P35, P36, P37, P42, Eng80, Eng81, Eng82, P43, PM, PN, P40. -/
import Derived.Test.YtmojbghcngdkpaaGreatDoorG04
import Derived.Sort.Row
import Derived.Sort.Grow
import Derived.Lib.SlicesCompact

set_option linter.unusedVariables false
set_option linter.unusedSimpArgs false
set_option linter.unusedSectionVars false

namespace Go.Proofs.YtmojbghcngdkpaaGreatDoor
open Go.Eng Go.Plain
set_option maxHeartbeats 4000000
set_option maxRecDepth 20000
attribute [local irreducible] WC RegS RegD SeqQ BlkQ ScoQ RegK CutK Sat SatN FnIs LoopQ StepIs OpIs
/-- The operations ahead of operation j of program i. -/
def preO (l : List (List POp)) (i : Nat) (p : List POp) (j : Nat) : List POp := (l.take i).flatten ++ p.take j
theorem preO_go {l : List (List POp)} {i j : Nat} {p : List POp} {o : POp} (ho : p[j]? = some o) : preO l i p (j + 1) = preO l i p j ++ [o] := by
  rw [preO, preO, List.take_add_one, ho]
  simp
theorem preO_end {l : List (List POp)} {i : Nat} {p : List POp} (hp : l[i]? = some p) : preO l i p p.length = (l.take (i + 1)).flatten := by
  rw [preO, List.take_length, List.take_add_one, hp]
  simp
theorem preO_zero (l : List (List POp)) (i : Nat) (p : List POp) : preO l i p 0 = (l.take i).flatten := by simp [preO]
theorem take_flat_le (l : List (List POp)) (i : Nat) : (l.take i).flatten.length ≤ l.flatten.length := by
  have := congrArg List.length (congrArg List.flatten (List.take_append_drop i l))
  rw [List.flatten_append, List.length_append] at this
  omega
theorem preO_le {l : List (List POp)} {i j : Nat} {p : List POp} (hp : l[i]? = some p) : (preO l i p j).length ≤ l.flatten.length := by
  have h1 := take_flat_le l (i + 1)
  rw [← preO_end hp] at h1
  have h2 : (p.take j).length ≤ p.length := by rw [List.length_take]; omega
  simp only [preO, List.length_append, List.take_length] at h1 ⊢
  omega
def cK (k : Int) (l : List POp) : Nat := l.countP fun o => decide (o.kind = k)
def cO (l : List POp) : Nat := l.countP fun o => !decide (o.kind = 1) && !decide (o.kind = 2) && !decide (o.kind = 3)
theorem cK_le (k : Int) (l : List POp) : cK k l ≤ l.length := List.countP_le_length
theorem cO_le (l : List POp) : cO l ≤ l.length := List.countP_le_length
theorem cK_yes {k : Int} {l : List POp} {o : POp} (h : o.kind = k) : cK k (l ++ [o]) = cK k l + 1 := by simp [cK, h]
theorem cK_no {k : Int} {l : List POp} {o : POp} (h : ¬ o.kind = k) : cK k (l ++ [o]) = cK k l := by simp [cK, h]
theorem cO_yes {l : List POp} {o : POp} (h1 : ¬ o.kind = 1) (h2 : ¬ o.kind = 2) (h3 : ¬ o.kind = 3) : cO (l ++ [o]) = cO l + 1 := by simp [cO, h1, h2, h3]
theorem cO_no {l : List POp} {o : POp} (h : o.kind = 1 ∨ o.kind = 2 ∨ o.kind = 3) : cO (l ++ [o]) = cO l := by
  simp only [cO, List.countP_append, List.countP_cons, List.countP_nil]
  rcases h with h | h | h <;> simp [h]
theorem count_is (l : List (List POp)) (hL : l.length ≤ 1000000) (hF : l.flatten.length ≤ 1000000) : FnIs Tryz.prog 42 [.d (encPL l)] [] (.tup (.acons (.int .i64 (cK 1 l.flatten)) (.acons (.int .i64 (cK 2 l.flatten)) (.acons (.int .i64 (cK 3 l.flatten)) (.acons (.int .i64 (cO l.flatten)) .anil))))) [] := by
  refine fnIs_of tab_ok Tryz.func42 rfl rfl rfl ?_
  refine sR ?_
  iterate 4 refine rC rfl ik0 ?_
  refine nS ?_
  refine wc_seq ?_
  refine sR ?_
  refine rC rfl ik0 ?_
  refine rQ rfl (len_arr tab_ok rfl rfl) ?_
  refine rC rfl ik0 ?_
  refine nS ?_
  refine wc_block ?_
  refine wc_inv (fun i : Nat => ⟨[(12, .int .i64 i), (11, .int .i64 l.length), (10, .d (encPL l)), (2, .int .i64 (cK 1 (l.take i).flatten)), (3, .int .i64 (cK 2 (l.take i).flatten)), (4, .int .i64 (cK 3 (l.take i).flatten)), (5, .int .i64 (cO (l.take i).flatten))], [], 72, Tryz.f42.ntmps, 64⟩) (fun i => i ≤ l.length) (fun i => l.length - i) 0 [] (Nat.zero_le _)
    (.of rfl rfl rfl rfl rfl ⟨⟨_, rfl, .refl _⟩, rfl, ⟨_, rfl, .refl _⟩, rfl, ⟨_, rfl, .refl _⟩, rfl, ⟨_, rfl, .refl _⟩, rfl, ⟨_, rfl, .refl _⟩, rfl, ⟨_, rfl, .refl _⟩, rfl, ⟨_, rfl, .refl _⟩, rfl, trivial⟩ trivial) ?_
  intro i hi
  refine wc_of ?_
  refine sR ?_
  refine rC rfl ik0 ?_
  refine nS ?_
  refine wc_seq ?_
  refine wc_cond rfl (fun h3 => ?_) (fun h3 => ?_)
  · have hlt : i < l.length := by have := of_decide_eq_true h3; omega
    obtain ⟨p, hp⟩ : ∃ p, l[i]? = some p := ⟨_, List.getElem?_eq_getElem hlt⟩
    have hp' : l[((i : Int)).toNat]? = some p := by rw [Int.toNat_natCast]; exact hp
    have hpF : p.length ≤ 1000000 := by
      have h1 := preO_le (j := p.length) hp
      rw [preO, List.take_length, List.length_append] at h1
      omega
    rw [← preO_zero l i p]
    refine wc_skip ?_
    refine seq_n ?_
    refine wc_seq ?_
    refine wc_block ?_
    refine sR ?_
    refine rQ rfl (index_arr tab_ok rfl rfl rfl rfl rfl (by omega) (by assumption)) ?_
    refine rQ rfl (load_i tab_ok rfl rfl) ?_
    refine rC rfl ik0 ?_
    refine nR ?_
    refine rC rfl ik0 ?_
    refine rQ rfl (len_arr tab_ok rfl rfl) ?_
    refine rC rfl ik0 ?_
    refine nS ?_
    refine wc_block ?_
    refine wc_inv (fun j : Nat => ⟨[(18, .int .i64 j), (17, .int .i64 p.length), (16, .d (encP p)), (12, .int .i64 i), (11, .int .i64 l.length), (10, .d (encPL l)), (2, .int .i64 (cK 1 (preO l i p j))), (3, .int .i64 (cK 2 (preO l i p j))), (4, .int .i64 (cK 3 (preO l i p j))), (5, .int .i64 (cO (preO l i p j)))], [], 72, Tryz.f42.ntmps, 64⟩) (fun j => j ≤ p.length) (fun j => p.length - j) 0 [] (Nat.zero_le _)
      (.of rfl rfl rfl rfl rfl ⟨⟨_, rfl, .refl _⟩, rfl, ⟨_, rfl, .refl _⟩, rfl, ⟨_, rfl, .refl _⟩, rfl, ⟨_, rfl, .refl _⟩, rfl, ⟨_, rfl, .refl _⟩, rfl, ⟨_, rfl, .refl _⟩, rfl, ⟨_, rfl, .refl _⟩, rfl, ⟨_, rfl, .refl _⟩, rfl, ⟨_, rfl, .refl _⟩, rfl, ⟨_, rfl, .refl _⟩, rfl, trivial⟩ trivial) ?_
    intro j hj
    refine wc_of ?_
    refine sR ?_
    refine rC rfl ik0 ?_
    refine nS ?_
    refine wc_seq ?_
    refine wc_cond rfl (fun h4 => ?_) (fun h4 => ?_)
    · have hjl : j < p.length := by have := of_decide_eq_true h4; omega
      obtain ⟨o, ho⟩ : ∃ o, p[j]? = some o := ⟨_, List.getElem?_eq_getElem hjl⟩
      have ho' : p[((j : Int)).toNat]? = some o := by rw [Int.toNat_natCast]; exact ho
      have hgo := preO_go (l := l) (i := i) ho
      have hle := preO_le (j := j) hp
      have q1 := cK_le 1 (preO l i p j)
      have q2 := cK_le 2 (preO l i p j)
      have q3 := cK_le 3 (preO l i p j)
      have q4 := cO_le (preO l i p j)
      by_cases k1 : o.kind = 1
      · have d1 := decide_eq_true k1
        have e1 := cK_yes (l := preO l i p j) k1
        have e2 := cK_no (k := 2) (l := preO l i p j) (o := o) (by omega)
        have e3 := cK_no (k := 3) (l := preO l i p j) (o := o) (by omega)
        have e4 := cO_no (l := preO l i p j) (o := o) (.inl k1)
        rw [← hgo] at e1 e2 e3 e4
        refine wc_skip ?_
        refine seq_n ?_
        refine wc_seq ?_
        refine wc_block ?_
        refine sR ?_
        refine rQ rfl (index_arr tab_ok rfl rfl rfl rfl rfl (by omega) (by assumption)) ?_
        refine rQ rfl (load_i tab_ok rfl rfl) ?_
        refine reg_new (step_C tab_ok (fun K hk => hk)) rfl ?_
        refine reg_store (store_row tab_ok rfl rfl rfl ⟨_, ⟨rfl, rfl, rfl⟩, rfl⟩ rfl) ?_
        refine nR ?_
        refine rC rfl ik0 ?_
        refine rQ rfl (load_box tab_ok rfl rfl ⟨_, rfl, rfl⟩ rfl) ?_
        refine nS ?_
        refine wc_block ?_
        refine sR ?_
        iterate 2 refine rC rfl ik0 ?_
        refine nS ?_
        refine wc_true rfl (by assumption) ?_
        refine wc_region ?_
        refine rC rfl ik0 ?_
        refine rQ rfl (add_int tab_ok rfl rfl (wrap_i64 (by omega) (by omega))) ?_
        refine rC rfl ik0 ?_
        refine reg_nil ?_
        iterate 2 refine blk_n ?_
        refine seq_n ?_
        refine wc_region ?_
        refine rQ rfl (add_int tab_ok rfl rfl (wrap_i64 (by omega) (by omega))) ?_
        refine rC rfl ik0 ?_
        refine reg_nil ?_
        exact loop_n (j + 1) [] hjl (by omega) (.of rfl rfl rfl rfl rfl ⟨⟨_, rfl, .refl _⟩, rfl, ⟨_, rfl, .refl _⟩, rfl, ⟨_, rfl, .refl _⟩, rfl, ⟨_, rfl, .refl _⟩, rfl, ⟨_, rfl, .refl _⟩, rfl, ⟨_, rfl, .refl _⟩, rfl, ⟨_, rfl, AVLe.of_eq (by rw [e1]; rfl)⟩, rfl, ⟨_, rfl, AVLe.of_eq (by rw [e2]; rfl)⟩, rfl, ⟨_, rfl, AVLe.of_eq (by rw [e3]; rfl)⟩, rfl, ⟨_, rfl, AVLe.of_eq (by rw [e4]; rfl)⟩, rfl, trivial⟩ trivial)
      by_cases k2 : o.kind = 2
      · have d1 := decide_eq_false k1
        have d2 := decide_eq_true k2
        have e1 := cK_no (k := 1) (l := preO l i p j) (o := o) (by omega)
        have e2 := cK_yes (l := preO l i p j) k2
        have e3 := cK_no (k := 3) (l := preO l i p j) (o := o) (by omega)
        have e4 := cO_no (l := preO l i p j) (o := o) (.inr (.inl k2))
        rw [← hgo] at e1 e2 e3 e4
        refine wc_skip ?_
        refine seq_n ?_
        refine wc_seq ?_
        refine wc_block ?_
        refine sR ?_
        refine rQ rfl (index_arr tab_ok rfl rfl rfl rfl rfl (by omega) (by assumption)) ?_
        refine rQ rfl (load_i tab_ok rfl rfl) ?_
        refine reg_new (step_C tab_ok (fun K hk => hk)) rfl ?_
        refine reg_store (store_row tab_ok rfl rfl rfl ⟨_, ⟨rfl, rfl, rfl⟩, rfl⟩ rfl) ?_
        refine nR ?_
        refine rC rfl ik0 ?_
        refine rQ rfl (load_box tab_ok rfl rfl ⟨_, rfl, rfl⟩ rfl) ?_
        refine nS ?_
        refine wc_block ?_
        refine sR ?_
        iterate 2 refine rC rfl ik0 ?_
        refine nS ?_
        refine wc_false rfl (by assumption) ?_
        refine sR ?_
        iterate 2 refine rC rfl ik0 ?_
        refine nS ?_
        refine wc_true rfl (by assumption) ?_
        refine wc_region ?_
        refine rC rfl ik0 ?_
        refine rQ rfl (add_int tab_ok rfl rfl (wrap_i64 (by omega) (by omega))) ?_
        refine rC rfl ik0 ?_
        refine reg_nil ?_
        iterate 2 refine blk_n ?_
        refine seq_n ?_
        refine wc_region ?_
        refine rQ rfl (add_int tab_ok rfl rfl (wrap_i64 (by omega) (by omega))) ?_
        refine rC rfl ik0 ?_
        refine reg_nil ?_
        exact loop_n (j + 1) [] hjl (by omega) (.of rfl rfl rfl rfl rfl ⟨⟨_, rfl, .refl _⟩, rfl, ⟨_, rfl, .refl _⟩, rfl, ⟨_, rfl, .refl _⟩, rfl, ⟨_, rfl, .refl _⟩, rfl, ⟨_, rfl, .refl _⟩, rfl, ⟨_, rfl, .refl _⟩, rfl, ⟨_, rfl, AVLe.of_eq (by rw [e1]; rfl)⟩, rfl, ⟨_, rfl, AVLe.of_eq (by rw [e2]; rfl)⟩, rfl, ⟨_, rfl, AVLe.of_eq (by rw [e3]; rfl)⟩, rfl, ⟨_, rfl, AVLe.of_eq (by rw [e4]; rfl)⟩, rfl, trivial⟩ trivial)
      by_cases k3 : o.kind = 3
      · have d1 := decide_eq_false k1
        have d2 := decide_eq_false k2
        have d3 := decide_eq_true k3
        have e1 := cK_no (k := 1) (l := preO l i p j) (o := o) (by omega)
        have e2 := cK_no (k := 2) (l := preO l i p j) (o := o) (by omega)
        have e3 := cK_yes (l := preO l i p j) k3
        have e4 := cO_no (l := preO l i p j) (o := o) (.inr (.inr k3))
        rw [← hgo] at e1 e2 e3 e4
        refine wc_skip ?_
        refine seq_n ?_
        refine wc_seq ?_
        refine wc_block ?_
        refine sR ?_
        refine rQ rfl (index_arr tab_ok rfl rfl rfl rfl rfl (by omega) (by assumption)) ?_
        refine rQ rfl (load_i tab_ok rfl rfl) ?_
        refine reg_new (step_C tab_ok (fun K hk => hk)) rfl ?_
        refine reg_store (store_row tab_ok rfl rfl rfl ⟨_, ⟨rfl, rfl, rfl⟩, rfl⟩ rfl) ?_
        refine nR ?_
        refine rC rfl ik0 ?_
        refine rQ rfl (load_box tab_ok rfl rfl ⟨_, rfl, rfl⟩ rfl) ?_
        refine nS ?_
        refine wc_block ?_
        refine sR ?_
        iterate 2 refine rC rfl ik0 ?_
        refine nS ?_
        refine wc_false rfl (by assumption) ?_
        refine sR ?_
        iterate 2 refine rC rfl ik0 ?_
        refine nS ?_
        refine wc_false rfl (by assumption) ?_
        refine sR ?_
        iterate 2 refine rC rfl ik0 ?_
        refine nS ?_
        refine wc_true rfl (by assumption) ?_
        refine wc_region ?_
        refine rC rfl ik0 ?_
        refine rQ rfl (add_int tab_ok rfl rfl (wrap_i64 (by omega) (by omega))) ?_
        refine rC rfl ik0 ?_
        refine reg_nil ?_
        iterate 2 refine blk_n ?_
        refine seq_n ?_
        refine wc_region ?_
        refine rQ rfl (add_int tab_ok rfl rfl (wrap_i64 (by omega) (by omega))) ?_
        refine rC rfl ik0 ?_
        refine reg_nil ?_
        exact loop_n (j + 1) [] hjl (by omega) (.of rfl rfl rfl rfl rfl ⟨⟨_, rfl, .refl _⟩, rfl, ⟨_, rfl, .refl _⟩, rfl, ⟨_, rfl, .refl _⟩, rfl, ⟨_, rfl, .refl _⟩, rfl, ⟨_, rfl, .refl _⟩, rfl, ⟨_, rfl, .refl _⟩, rfl, ⟨_, rfl, AVLe.of_eq (by rw [e1]; rfl)⟩, rfl, ⟨_, rfl, AVLe.of_eq (by rw [e2]; rfl)⟩, rfl, ⟨_, rfl, AVLe.of_eq (by rw [e3]; rfl)⟩, rfl, ⟨_, rfl, AVLe.of_eq (by rw [e4]; rfl)⟩, rfl, trivial⟩ trivial)
      · have d1 := decide_eq_false k1
        have d2 := decide_eq_false k2
        have d3 := decide_eq_false k3
        have e1 := cK_no (k := 1) (l := preO l i p j) (o := o) k1
        have e2 := cK_no (k := 2) (l := preO l i p j) (o := o) k2
        have e3 := cK_no (k := 3) (l := preO l i p j) (o := o) k3
        have e4 := cO_yes (l := preO l i p j) k1 k2 k3
        rw [← hgo] at e1 e2 e3 e4
        refine wc_skip ?_
        refine seq_n ?_
        refine wc_seq ?_
        refine wc_block ?_
        refine sR ?_
        refine rQ rfl (index_arr tab_ok rfl rfl rfl rfl rfl (by omega) (by assumption)) ?_
        refine rQ rfl (load_i tab_ok rfl rfl) ?_
        refine reg_new (step_C tab_ok (fun K hk => hk)) rfl ?_
        refine reg_store (store_row tab_ok rfl rfl rfl ⟨_, ⟨rfl, rfl, rfl⟩, rfl⟩ rfl) ?_
        refine nR ?_
        refine rC rfl ik0 ?_
        refine rQ rfl (load_box tab_ok rfl rfl ⟨_, rfl, rfl⟩ rfl) ?_
        refine nS ?_
        refine wc_block ?_
        refine sR ?_
        iterate 2 refine rC rfl ik0 ?_
        refine nS ?_
        refine wc_false rfl (by assumption) ?_
        refine sR ?_
        iterate 2 refine rC rfl ik0 ?_
        refine nS ?_
        refine wc_false rfl (by assumption) ?_
        refine sR ?_
        iterate 2 refine rC rfl ik0 ?_
        refine nS ?_
        refine wc_false rfl (by assumption) ?_
        refine wc_region ?_
        refine rC rfl ik0 ?_
        refine rQ rfl (add_int tab_ok rfl rfl (wrap_i64 (by omega) (by omega))) ?_
        refine rC rfl ik0 ?_
        refine reg_nil ?_
        iterate 2 refine blk_n ?_
        refine seq_n ?_
        refine wc_region ?_
        refine rQ rfl (add_int tab_ok rfl rfl (wrap_i64 (by omega) (by omega))) ?_
        refine rC rfl ik0 ?_
        refine reg_nil ?_
        exact loop_n (j + 1) [] hjl (by omega) (.of rfl rfl rfl rfl rfl ⟨⟨_, rfl, .refl _⟩, rfl, ⟨_, rfl, .refl _⟩, rfl, ⟨_, rfl, .refl _⟩, rfl, ⟨_, rfl, .refl _⟩, rfl, ⟨_, rfl, .refl _⟩, rfl, ⟨_, rfl, .refl _⟩, rfl, ⟨_, rfl, AVLe.of_eq (by rw [e1]; rfl)⟩, rfl, ⟨_, rfl, AVLe.of_eq (by rw [e2]; rfl)⟩, rfl, ⟨_, rfl, AVLe.of_eq (by rw [e3]; rfl)⟩, rfl, ⟨_, rfl, AVLe.of_eq (by rw [e4]; rfl)⟩, rfl, trivial⟩ trivial)
    · have he : j = p.length := by have := of_decide_eq_false h4; omega
      subst he
      refine wc_exit ?_
      refine seq_x ?_
      refine loop_x ?_
      refine blk_x ?_
      refine blk_n ?_
      refine seq_n ?_
      refine wc_region ?_
      refine rQ rfl (add_int tab_ok rfl rfl (wrap_i64 (by omega) (by omega))) ?_
      refine rC rfl ik0 ?_
      refine reg_nil ?_
      rw [preO_end hp]
      exact loop_n (i + 1) [] hlt (by omega) (.of rfl rfl rfl rfl rfl ⟨⟨_, rfl, .refl _⟩, rfl, ⟨_, rfl, .refl _⟩, rfl, ⟨_, rfl, .refl _⟩, rfl, ⟨_, rfl, .refl _⟩, rfl, ⟨_, rfl, .refl _⟩, rfl, ⟨_, rfl, .refl _⟩, rfl, ⟨_, rfl, .refl _⟩, rfl, trivial⟩ trivial)
  · have he : i = l.length := by have := of_decide_eq_false h3; omega
    subst he
    rw [List.take_length]
    refine wc_exit ?_
    refine seq_x ?_
    refine loop_x ?_
    refine blk_x ?_
    refine seq_n ?_
    refine sR ?_
    iterate 8 refine rC rfl ik0 ?_
    refine nS ?_
    refine wc_ret ?_
    exact ⟨trivial, [], .of rfl rfl rfl rfl rfl ⟨⟨_, rfl, AVLe.of_eq rfl⟩, rfl, trivial⟩ trivial⟩
end Go.Proofs.YtmojbghcngdkpaaGreatDoor

namespace Go.Proofs.YtmojbghcngdkpaaGreatDoor
open Go.Eng Go.Plain
set_option maxHeartbeats 4000000
set_option maxRecDepth 20000
attribute [local irreducible] WC RegS RegD SeqQ BlkQ ScoQ RegK CutK Sat SatN FnIs LoopQ StepIs OpIs
end Go.Proofs.YtmojbghcngdkpaaGreatDoor

namespace Go.Proofs.YtmojbghcngdkpaaGreatDoor
open Go.Eng Go.Plain
set_option maxHeartbeats 4000000
set_option maxRecDepth 20000
attribute [local irreducible] WC RegS RegD SeqQ BlkQ ScoQ RegK CutK Sat SatN FnIs LoopQ StepIs OpIs
abbrev sRow : List (Nat × Row) := [(0, .box 165 (fnA 100))]
end Go.Proofs.YtmojbghcngdkpaaGreatDoor

namespace Go.Proofs.YtmojbghcngdkpaaGreatDoor
open Go.Eng Go.Plain
set_option maxHeartbeats 4000000
set_option maxRecDepth 20000
attribute [local irreducible] WC RegS RegD SeqQ BlkQ ScoQ RegK CutK Sat SatN FnIs LoopQ StepIs OpIs
end Go.Proofs.YtmojbghcngdkpaaGreatDoor

namespace Go.Proofs.YtmojbghcngdkpaaGreatDoor
open Go.Eng Go.Plain
set_option maxHeartbeats 4000000
set_option maxRecDepth 20000
attribute [local irreducible] WC RegS RegD SeqQ BlkQ ScoQ RegK CutK Sat SatN FnIs LoopQ StepIs OpIs
theorem rcheck_is (l : List (List POp)) : FnIs Tryz.prog 36 [.d (encPL l)] [] (.d (i6 (chkP l))) [] := by
  refine fnIs_of tab_ok Tryz.func36 rfl rfl rfl ?_
  by_cases h8 : 8 < l.length
  · have hd : decide (8 < (l.length : Int)) = true := decide_eq_true (by omega)
    rw [show chkP l = 3 by rw [chkP, if_pos h8]]
    refine sR ?_
    refine rC rfl ik0 ?_
    refine nS ?_
    refine wc_seq ?_
    refine sR ?_
    refine rC rfl ik0 ?_
    refine rQ rfl (len_arr tab_ok rfl rfl) ?_
    refine rC rfl ik0 ?_
    refine nS ?_
    refine wc_true rfl (by assumption) ?_
    refine sR ?_
    refine rC rfl ik0 ?_
    refine nS ?_
    refine wc_ret ?_
    refine seq_r ?_
    exact ⟨trivial, [], .of rfl rfl rfl rfl rfl ⟨⟨_, rfl, AVLe.of_eq rfl⟩, rfl, trivial⟩ trivial⟩
  have hd : decide (8 < (l.length : Int)) = false := decide_eq_false (by omega)
  have hbad : ∀ p ∈ l, badP p = true → chkP l = 3 := fun p hp hb => by
    rw [chkP, if_neg h8, if_pos (List.any_eq_true.2 ⟨p, hp, hb⟩)]
  refine sR ?_
  refine rC rfl ik0 ?_
  refine nS ?_
  refine wc_seq ?_
  refine sR ?_
  refine rC rfl ik0 ?_
  refine rQ rfl (len_arr tab_ok rfl rfl) ?_
  refine rC rfl ik0 ?_
  refine nS ?_
  refine wc_false rfl (by assumption) ?_
  refine wc_skip ?_
  refine seq_n ?_
  refine wc_seq ?_
  refine sR ?_
  refine rC rfl ik0 ?_
  refine nS ?_
  refine wc_block ?_
  refine wc_inv (fun i : Nat => ⟨[(3, .int .i64 i), (0, .d (encPL l))], [], 72, Tryz.f36.ntmps, 64⟩) (fun i => i ≤ l.length ∧ ∀ p ∈ l.take i, badP p = false) (fun i => l.length - i) 0 [] ⟨Nat.zero_le _, by simp⟩
    (.of rfl rfl rfl rfl rfl ⟨⟨_, rfl, .refl _⟩, rfl, ⟨_, rfl, .refl _⟩, rfl, trivial⟩ trivial) ?_
  intro i hi
  obtain ⟨hi, hgood⟩ := hi
  refine wc_of ?_
  refine wc_seq ?_
  refine sR ?_
  iterate 2 refine rC rfl ik0 ?_
  refine rQ rfl (len_arr tab_ok rfl rfl) ?_
  refine rC rfl ik0 ?_
  refine nS ?_
  refine wc_cond rfl (fun h3 => ?_) (fun h3 => ?_)
  · have hlt : i < l.length := by have := of_decide_eq_true h3; omega
    obtain ⟨p, hp⟩ : ∃ p, l[i]? = some p := ⟨_, List.getElem?_eq_getElem hlt⟩
    have hp' : l[((i : Int)).toNat]? = some p := by rw [Int.toNat_natCast]; exact hp
    have hpm := List.mem_of_getElem? hp
    by_cases h64 : 64 < p.length
    · have hd2 : decide (64 < (p.length : Int)) = true := decide_eq_true (by omega)
      rw [hbad p hpm (by simp [badP, h64])]
      refine wc_skip ?_
      refine seq_n ?_
      refine wc_seq ?_
      refine wc_block ?_
      refine wc_seq ?_
      refine sR ?_
      iterate 2 refine rC rfl ik0 ?_
      refine rQ rfl (index_arr tab_ok rfl rfl rfl rfl rfl (by omega) (by assumption)) ?_
      refine rQ rfl (load_i tab_ok rfl rfl) ?_
      refine rQ rfl (len_arr tab_ok rfl rfl) ?_
      refine rC rfl ik0 ?_
      refine nS ?_
      refine wc_true rfl (by assumption) ?_
      refine sR ?_
      refine rC rfl ik0 ?_
      refine nS ?_
      refine wc_ret ?_
      refine seq_r ?_
      refine blk_r ?_
      refine seq_r ?_
      refine loop_r ?_
      refine blk_r ?_
      refine seq_r ?_
      exact ⟨trivial, [], .of rfl rfl rfl rfl rfl ⟨⟨_, rfl, AVLe.of_eq rfl⟩, rfl, trivial⟩ trivial⟩
    have hd2 : decide (64 < (p.length : Int)) = false := decide_eq_false (by omega)
    refine wc_skip ?_
    refine seq_n ?_
    refine wc_seq ?_
    refine wc_block ?_
    refine wc_seq ?_
    refine sR ?_
    iterate 2 refine rC rfl ik0 ?_
    refine rQ rfl (index_arr tab_ok rfl rfl rfl rfl rfl (by omega) (by assumption)) ?_
    refine rQ rfl (load_i tab_ok rfl rfl) ?_
    refine rQ rfl (len_arr tab_ok rfl rfl) ?_
    refine rC rfl ik0 ?_
    refine nS ?_
    refine wc_false rfl (by assumption) ?_
    refine wc_skip ?_
    refine seq_n ?_
    refine sR ?_
    refine rC rfl ik0 ?_
    refine nS ?_
    refine wc_block ?_
    refine wc_inv (fun j : Nat => ⟨[(4, .int .i64 j), (3, .int .i64 i), (0, .d (encPL l))], [], 72, Tryz.f36.ntmps, 64⟩) (fun j => j ≤ p.length ∧ ∀ o ∈ p.take j, o.data.length ≤ 64) (fun j => p.length - j) 0 [] ⟨Nat.zero_le _, by simp⟩
      (.of rfl rfl rfl rfl rfl ⟨⟨_, rfl, .refl _⟩, rfl, ⟨_, rfl, .refl _⟩, rfl, ⟨_, rfl, .refl _⟩, rfl, trivial⟩ trivial) ?_
    intro j hj
    obtain ⟨hj, hdat⟩ := hj
    refine wc_of ?_
    refine wc_seq ?_
    refine sR ?_
    iterate 3 refine rC rfl ik0 ?_
    refine rQ rfl (index_arr tab_ok rfl rfl rfl rfl rfl (by omega) (by assumption)) ?_
    refine rQ rfl (load_i tab_ok rfl rfl) ?_
    refine rQ rfl (len_arr tab_ok rfl rfl) ?_
    refine rC rfl ik0 ?_
    refine nS ?_
    refine wc_cond rfl (fun h4 => ?_) (fun h4 => ?_)
    · have hjl : j < p.length := by have := of_decide_eq_true h4; omega
      obtain ⟨o, ho⟩ : ∃ o, p[j]? = some o := ⟨_, List.getElem?_eq_getElem hjl⟩
      have ho' : p[((j : Int)).toNat]? = some o := by rw [Int.toNat_natCast]; exact ho
      have hbl : (byI o.data).length = o.data.length := byI_len _
      by_cases hbig : 64 < o.data.length
      · have hd3 : decide (64 < ((byI o.data).length : Int)) = true := decide_eq_true (by omega)
        rw [hbad p hpm (by rw [badP, Bool.or_eq_true]; exact .inr (List.any_eq_true.2 ⟨o, List.mem_of_getElem? ho, decide_eq_true hbig⟩))]
        refine wc_skip ?_
        refine seq_n ?_
        refine wc_seq ?_
        refine wc_block ?_
        refine sR ?_
        iterate 2 refine rC rfl ik0 ?_
        refine rQ rfl (index_arr tab_ok rfl rfl rfl rfl rfl (by omega) (by assumption)) ?_
        refine rQ rfl (load_i tab_ok rfl rfl) ?_
        refine rC rfl ik0 ?_
        refine rQ rfl (index_arr tab_ok rfl rfl rfl rfl rfl (by omega) (by assumption)) ?_
        refine rC rfl ik0 ?_
        refine rQ rfl (load_i tab_ok rfl rfl) ?_
        refine rQ rfl (len_arr tab_ok rfl rfl) ?_
        refine rC rfl ik0 ?_
        refine nS ?_
        refine wc_true rfl (by assumption) ?_
        refine sR ?_
        refine rC rfl ik0 ?_
        refine nS ?_
        refine wc_ret ?_
        refine blk_r ?_
        refine seq_r ?_
        refine loop_r ?_
        iterate 2 refine blk_r ?_
        refine seq_r ?_
        refine loop_r ?_
        refine blk_r ?_
        refine seq_r ?_
        exact ⟨trivial, [], .of rfl rfl rfl rfl rfl ⟨⟨_, rfl, AVLe.of_eq rfl⟩, rfl, trivial⟩ trivial⟩
      · have hd3 : decide (64 < ((byI o.data).length : Int)) = false := decide_eq_false (by omega)
        refine wc_skip ?_
        refine seq_n ?_
        refine wc_seq ?_
        refine wc_block ?_
        refine sR ?_
        iterate 2 refine rC rfl ik0 ?_
        refine rQ rfl (index_arr tab_ok rfl rfl rfl rfl rfl (by omega) (by assumption)) ?_
        refine rQ rfl (load_i tab_ok rfl rfl) ?_
        refine rC rfl ik0 ?_
        refine rQ rfl (index_arr tab_ok rfl rfl rfl rfl rfl (by omega) (by assumption)) ?_
        refine rC rfl ik0 ?_
        refine rQ rfl (load_i tab_ok rfl rfl) ?_
        refine rQ rfl (len_arr tab_ok rfl rfl) ?_
        refine rC rfl ik0 ?_
        refine nS ?_
        refine wc_false rfl (by assumption) ?_
        refine wc_skip ?_
        refine blk_n ?_
        refine seq_n ?_
        refine wc_region ?_
        refine rC rfl ik0 ?_
        refine rQ rfl (add_int tab_ok rfl rfl (wrap_i64 (by omega) (by omega))) ?_
        refine rC rfl ik0 ?_
        refine reg_nil ?_
        exact loop_n (j + 1) [] ⟨hjl, fun x hx => by rw [List.take_add_one, ho] at hx; rcases List.mem_append.1 hx with hx | hx; exact hdat x hx; rw [show x = o by simpa using hx]; omega⟩ (by omega) (.of rfl rfl rfl rfl rfl ⟨⟨_, rfl, .refl _⟩, rfl, ⟨_, rfl, .refl _⟩, rfl, ⟨_, rfl, .refl _⟩, rfl, trivial⟩ trivial)
    · have he : j = p.length := by have := of_decide_eq_false h4; omega
      subst he
      have hpg : badP p = false := by
        rw [badP, Bool.or_eq_false_iff]
        refine ⟨decide_eq_false h64, ?_⟩
        rw [List.any_eq_false]
        intro o ho
        have := hdat o (by rw [List.take_length]; exact ho)
        simp only [decide_eq_true_eq]; omega
      refine wc_exit ?_
      refine seq_x ?_
      refine loop_x ?_
      refine blk_x ?_
      refine blk_n ?_
      refine seq_n ?_
      refine wc_region ?_
      refine rC rfl ik0 ?_
      refine rQ rfl (add_int tab_ok rfl rfl (wrap_i64 (by omega) (by omega))) ?_
      refine rC rfl ik0 ?_
      refine reg_nil ?_
      exact loop_n (i + 1) [] ⟨hlt, fun x hx => by rw [List.take_add_one, hp] at hx; rcases List.mem_append.1 hx with hx | hx; exact hgood x hx; rw [show x = p by simpa using hx]; exact hpg⟩ (by omega) (.of rfl rfl rfl rfl rfl ⟨⟨_, rfl, .refl _⟩, rfl, ⟨_, rfl, .refl _⟩, rfl, trivial⟩ trivial)
  · have he : i = l.length := by have := of_decide_eq_false h3; omega
    subst he
    rw [show chkP l = 0 from chkP_ok.2 ⟨by omega, fun p hp => hgood p (by rw [List.take_length]; exact hp)⟩]
    refine wc_exit ?_
    refine seq_x ?_
    refine loop_x ?_
    refine blk_x ?_
    refine seq_n ?_
    refine sR ?_
    refine rC rfl ik0 ?_
    refine nS ?_
    refine wc_ret ?_
    exact ⟨trivial, [], .of rfl rfl rfl rfl rfl ⟨⟨_, rfl, AVLe.of_eq rfl⟩, rfl, trivial⟩ trivial⟩
end Go.Proofs.YtmojbghcngdkpaaGreatDoor

namespace Go.Proofs.YtmojbghcngdkpaaGreatDoor
open Go.Eng Go.Plain
set_option maxHeartbeats 4000000
set_option maxRecDepth 20000
attribute [local irreducible] WC RegS RegD SeqQ BlkQ ScoQ RegK CutK Sat SatN FnIs LoopQ StepIs OpIs
/-- Within the bounds of the statements. -/
def SmallL (l : List (List POp)) : Prop := l.length ≤ 12 ∧ l.flatten.length ≤ 200 ∧ ∀ p ∈ l, p.length ≤ 66 ∧ ∀ o ∈ p, o.data.length ≤ 70
def smallB (l : List (List POp)) : Bool := decide (l.length ≤ 12) && decide (l.flatten.length ≤ 200) && l.all fun p => decide (p.length ≤ 66) && p.all fun o => decide (o.data.length ≤ 70)
theorem small_iff (l : List (List POp)) : smallB l = true ↔ SmallL l := by
  simp only [smallB, SmallL, Bool.and_eq_true, decide_eq_true_eq, List.all_eq_true, and_assoc]
theorem small_no {l : List (List POp)} (h : ¬ SmallL l) : smallB l = false := by
  cases hb : smallB l with
  | false => rfl
  | true => exact absurd ((small_iff l).1 hb) h
theorem flat_mem_le {l : List (List POp)} {i : Nat} {p : List POp} (hp : l[i]? = some p) : (l.take i).flatten.length + p.length ≤ l.flatten.length := by
  have h1 := take_flat_le l (i + 1)
  rw [← preO_end hp, preO, List.take_length, List.length_append] at h1
  exact h1
theorem small_is (l : List (List POp)) : FnIs Tryz.prog 34 [.d (encPL l)] [] (.d (i6 (if smallB l = true then 1 else 0))) [] := by
  refine fnIs_of tab_ok Tryz.func34 rfl rfl rfl ?_
  by_cases h8 : 12 < l.length
  · have hd : decide (12 < (l.length : Int)) = true := decide_eq_true (by omega)
    rw [small_no (fun h => by have := h.1; omega)]
    refine sR ?_
    refine rC rfl ik0 ?_
    refine nR ?_
    refine rC rfl ik0 ?_
    refine nS ?_
    refine wc_seq ?_
    refine sR ?_
    refine rC rfl ik0 ?_
    refine rQ rfl (len_arr tab_ok rfl rfl) ?_
    refine rC rfl ik0 ?_
    refine nS ?_
    refine wc_true rfl (by assumption) ?_
    refine sR ?_
    refine rC rfl ik0 ?_
    refine nS ?_
    refine wc_ret ?_
    refine seq_r ?_
    exact ⟨trivial, [], .of rfl rfl rfl rfl rfl ⟨⟨_, rfl, AVLe.of_eq rfl⟩, rfl, trivial⟩ trivial⟩
  have hd : decide (12 < (l.length : Int)) = false := decide_eq_false (by omega)
  refine sR ?_
  refine rC rfl ik0 ?_
  refine nR ?_
  refine rC rfl ik0 ?_
  refine nS ?_
  refine wc_seq ?_
  refine sR ?_
  refine rC rfl ik0 ?_
  refine rQ rfl (len_arr tab_ok rfl rfl) ?_
  refine rC rfl ik0 ?_
  refine nS ?_
  refine wc_false rfl (by assumption) ?_
  refine wc_skip ?_
  refine seq_n ?_
  refine wc_seq ?_
  refine sR ?_
  refine rC rfl ik0 ?_
  refine nS ?_
  refine wc_block ?_
  refine wc_inv (fun i : Nat => ⟨[(4, .int .i64 i), (3, .int .i64 (l.take i).flatten.length), (0, .d (encPL l))], [], 72, Tryz.f34.ntmps, 64⟩) (fun i => i ≤ l.length ∧ (l.take i).flatten.length ≤ 200 ∧ ∀ p ∈ l.take i, p.length ≤ 66 ∧ ∀ o ∈ p, o.data.length ≤ 70) (fun i => l.length - i) 0 [] ⟨Nat.zero_le _, by simp, by simp⟩
    (.of rfl rfl rfl rfl rfl ⟨⟨_, rfl, .refl _⟩, rfl, ⟨_, rfl, .refl _⟩, rfl, ⟨_, rfl, .refl _⟩, rfl, trivial⟩ trivial) ?_
  intro i hi
  obtain ⟨hi, hfl, hgood⟩ := hi
  refine wc_of ?_
  refine wc_seq ?_
  refine sR ?_
  iterate 2 refine rC rfl ik0 ?_
  refine rQ rfl (len_arr tab_ok rfl rfl) ?_
  refine rC rfl ik0 ?_
  refine nS ?_
  refine wc_cond rfl (fun h3 => ?_) (fun h3 => ?_)
  · have hlt : i < l.length := by have := of_decide_eq_true h3; omega
    obtain ⟨p, hp⟩ : ∃ p, l[i]? = some p := ⟨_, List.getElem?_eq_getElem hlt⟩
    have hp' : l[((i : Int)).toNat]? = some p := by rw [Int.toNat_natCast]; exact hp
    have hpm := List.mem_of_getElem? hp
    have hfm := flat_mem_le hp
    by_cases h64 : 66 < p.length
    · have hd2 : decide (66 < (p.length : Int)) = true := decide_eq_true (by omega)
      rw [small_no (fun h => by have := (h.2.2 p hpm).1; omega)]
      refine wc_skip ?_
      refine seq_n ?_
      refine wc_seq ?_
      refine wc_block ?_
      refine sR ?_
      iterate 3 refine rC rfl ik0 ?_
      refine rQ rfl (index_arr tab_ok rfl rfl rfl rfl rfl (by omega) (by assumption)) ?_
      refine rQ rfl (load_i tab_ok rfl rfl) ?_
      refine rQ rfl (len_arr tab_ok rfl rfl) ?_
      refine rQ rfl (add_int (m := IntKind.i64.wrap ((((l.take i).flatten.length : Nat) : Int) + (p.length : Int))) tab_ok rfl rfl rfl) ?_
      refine rC rfl ik0 ?_
      refine nS ?_
      refine wc_seq ?_
      refine sR ?_
      iterate 2 refine rC rfl ik0 ?_
      refine rQ rfl (index_arr tab_ok rfl rfl rfl rfl rfl (by omega) (by assumption)) ?_
      refine rQ rfl (load_i tab_ok rfl rfl) ?_
      refine rQ rfl (len_arr tab_ok rfl rfl) ?_
      iterate 2 refine rC rfl ik0 ?_
      iterate 2 refine reg_skip rfl rfl (by assumption) rfl rfl ?_
      refine rQ rfl (pick_T tab_ok rfl (by assumption) rfl) ?_
      refine nS ?_
      refine wc_true rfl rfl ?_
      refine sR ?_
      refine rC rfl ik0 ?_
      refine nS ?_
      refine wc_ret ?_
      refine seq_r ?_
      refine blk_r ?_
      refine seq_r ?_
      refine loop_r ?_
      refine blk_r ?_
      refine seq_r ?_
      exact ⟨trivial, [], .of rfl rfl rfl rfl rfl ⟨⟨_, rfl, AVLe.of_eq rfl⟩, rfl, trivial⟩ trivial⟩
    have hd2 : decide (66 < (p.length : Int)) = false := decide_eq_false (by omega)
    have hfn : (l.take (i + 1)).flatten.length = (l.take i).flatten.length + p.length := by rw [← preO_end hp, preO, List.take_length, List.length_append]
    have hw : IntKind.i64.wrap ((((l.take i).flatten.length : Nat) : Int) + (p.length : Int)) = (((l.take (i + 1)).flatten.length : Nat) : Int) := by rw [hfn, wrap_i64 (by omega) (by omega)]; omega
    by_cases h200 : 200 < (l.take (i + 1)).flatten.length
    · have hd4 : decide (200 < IntKind.i64.wrap ((((l.take i).flatten.length : Nat) : Int) + (p.length : Int))) = true := by rw [hw]; exact decide_eq_true (by omega)
      rw [small_no (fun h => by have := h.2.1; omega)]
      refine wc_skip ?_
      refine seq_n ?_
      refine wc_seq ?_
      refine wc_block ?_
      refine sR ?_
      iterate 3 refine rC rfl ik0 ?_
      refine rQ rfl (index_arr tab_ok rfl rfl rfl rfl rfl (by omega) (by assumption)) ?_
      refine rQ rfl (load_i tab_ok rfl rfl) ?_
      refine rQ rfl (len_arr tab_ok rfl rfl) ?_
      refine rQ rfl (add_int (m := IntKind.i64.wrap ((((l.take i).flatten.length : Nat) : Int) + (p.length : Int))) tab_ok rfl rfl rfl) ?_
      refine rC rfl ik0 ?_
      refine nS ?_
      refine wc_seq ?_
      refine sR ?_
      iterate 2 refine rC rfl ik0 ?_
      refine rQ rfl (index_arr tab_ok rfl rfl rfl rfl rfl (by omega) (by assumption)) ?_
      refine rQ rfl (load_i tab_ok rfl rfl) ?_
      refine rQ rfl (len_arr tab_ok rfl rfl) ?_
      iterate 2 refine rC rfl ik0 ?_
      refine reg_on rfl rfl (by assumption) ?_
      refine rC rfl ik0 ?_
      refine reg_on rfl rfl (by assumption) ?_
      refine rC rfl ik0 ?_
      refine rQ rfl (pick_F tab_ok rfl (by assumption) rfl) ?_
      refine nS ?_
      refine wc_true rfl (by assumption) ?_
      refine sR ?_
      refine rC rfl ik0 ?_
      refine nS ?_
      refine wc_ret ?_
      refine seq_r ?_
      refine blk_r ?_
      refine seq_r ?_
      refine loop_r ?_
      refine blk_r ?_
      refine seq_r ?_
      exact ⟨trivial, [], .of rfl rfl rfl rfl rfl ⟨⟨_, rfl, AVLe.of_eq rfl⟩, rfl, trivial⟩ trivial⟩
    have hd4 : decide (200 < IntKind.i64.wrap ((((l.take i).flatten.length : Nat) : Int) + (p.length : Int))) = false := by rw [hw]; exact decide_eq_false (by omega)
    refine wc_skip ?_
    refine seq_n ?_
    refine wc_seq ?_
    refine wc_block ?_
    refine sR ?_
    iterate 3 refine rC rfl ik0 ?_
    refine rQ rfl (index_arr tab_ok rfl rfl rfl rfl rfl (by omega) (by assumption)) ?_
    refine rQ rfl (load_i tab_ok rfl rfl) ?_
    refine rQ rfl (len_arr tab_ok rfl rfl) ?_
    refine rQ rfl (add_int (m := IntKind.i64.wrap ((((l.take i).flatten.length : Nat) : Int) + (p.length : Int))) tab_ok rfl rfl rfl) ?_
    refine rC rfl ik0 ?_
    refine nS ?_
    refine wc_seq ?_
    refine sR ?_
    iterate 2 refine rC rfl ik0 ?_
    refine rQ rfl (index_arr tab_ok rfl rfl rfl rfl rfl (by omega) (by assumption)) ?_
    refine rQ rfl (load_i tab_ok rfl rfl) ?_
    refine rQ rfl (len_arr tab_ok rfl rfl) ?_
    iterate 2 refine rC rfl ik0 ?_
    refine reg_on rfl rfl (by assumption) ?_
    refine rC rfl ik0 ?_
    refine reg_on rfl rfl (by assumption) ?_
    refine rC rfl ik0 ?_
    refine rQ rfl (pick_F tab_ok rfl (by assumption) rfl) ?_
    refine nS ?_
    refine wc_false rfl (by assumption) ?_
    refine wc_skip ?_
    refine seq_n ?_
    refine sR ?_
    refine rC rfl ik0 ?_
    refine nS ?_
    refine wc_block ?_
    rw [hw]
    refine wc_inv (fun j : Nat => ⟨[(5, .int .i64 j), (4, .int .i64 i), (3, .int .i64 (l.take (i + 1)).flatten.length), (0, .d (encPL l))], [], 72, Tryz.f34.ntmps, 64⟩) (fun j => j ≤ p.length ∧ ∀ o ∈ p.take j, o.data.length ≤ 70) (fun j => p.length - j) 0 [] ⟨Nat.zero_le _, by simp⟩
      (.of rfl rfl rfl rfl rfl ⟨⟨_, rfl, .refl _⟩, rfl, ⟨_, rfl, .refl _⟩, rfl, ⟨_, rfl, .refl _⟩, rfl, ⟨_, rfl, .refl _⟩, rfl, trivial⟩ trivial) ?_
    intro j hj
    obtain ⟨hj, hdat⟩ := hj
    refine wc_of ?_
    refine wc_seq ?_
    refine sR ?_
    iterate 3 refine rC rfl ik0 ?_
    refine rQ rfl (index_arr tab_ok rfl rfl rfl rfl rfl (by omega) (by assumption)) ?_
    refine rQ rfl (load_i tab_ok rfl rfl) ?_
    refine rQ rfl (len_arr tab_ok rfl rfl) ?_
    refine rC rfl ik0 ?_
    refine nS ?_
    refine wc_cond rfl (fun h4 => ?_) (fun h4 => ?_)
    · have hjl : j < p.length := by have := of_decide_eq_true h4; omega
      obtain ⟨o, ho⟩ : ∃ o, p[j]? = some o := ⟨_, List.getElem?_eq_getElem hjl⟩
      have ho' : p[((j : Int)).toNat]? = some o := by rw [Int.toNat_natCast]; exact ho
      have hbl : (byI o.data).length = o.data.length := byI_len _
      by_cases hbig : 70 < o.data.length
      · have hd3 : decide (70 < ((byI o.data).length : Int)) = true := decide_eq_true (by omega)
        rw [small_no (fun h => by have := (h.2.2 p hpm).2 o (List.mem_of_getElem? ho); omega)]
        refine wc_skip ?_
        refine seq_n ?_
        refine wc_seq ?_
        refine wc_block ?_
        refine sR ?_
        iterate 2 refine rC rfl ik0 ?_
        refine rQ rfl (index_arr tab_ok rfl rfl rfl rfl rfl (by omega) (by assumption)) ?_
        refine rQ rfl (load_i tab_ok rfl rfl) ?_
        refine rC rfl ik0 ?_
        refine rQ rfl (index_arr tab_ok rfl rfl rfl rfl rfl (by omega) (by assumption)) ?_
        refine rC rfl ik0 ?_
        refine rQ rfl (load_i tab_ok rfl rfl) ?_
        refine rQ rfl (len_arr tab_ok rfl rfl) ?_
        refine rC rfl ik0 ?_
        refine nS ?_
        refine wc_true rfl (by assumption) ?_
        refine sR ?_
        refine rC rfl ik0 ?_
        refine nS ?_
        refine wc_ret ?_
        refine blk_r ?_
        refine seq_r ?_
        refine loop_r ?_
        iterate 2 refine blk_r ?_
        refine seq_r ?_
        refine loop_r ?_
        refine blk_r ?_
        refine seq_r ?_
        exact ⟨trivial, [], .of rfl rfl rfl rfl rfl ⟨⟨_, rfl, AVLe.of_eq rfl⟩, rfl, trivial⟩ trivial⟩
      · have hd3 : decide (70 < ((byI o.data).length : Int)) = false := decide_eq_false (by omega)
        refine wc_skip ?_
        refine seq_n ?_
        refine wc_seq ?_
        refine wc_block ?_
        refine sR ?_
        iterate 2 refine rC rfl ik0 ?_
        refine rQ rfl (index_arr tab_ok rfl rfl rfl rfl rfl (by omega) (by assumption)) ?_
        refine rQ rfl (load_i tab_ok rfl rfl) ?_
        refine rC rfl ik0 ?_
        refine rQ rfl (index_arr tab_ok rfl rfl rfl rfl rfl (by omega) (by assumption)) ?_
        refine rC rfl ik0 ?_
        refine rQ rfl (load_i tab_ok rfl rfl) ?_
        refine rQ rfl (len_arr tab_ok rfl rfl) ?_
        refine rC rfl ik0 ?_
        refine nS ?_
        refine wc_false rfl (by assumption) ?_
        refine wc_skip ?_
        refine blk_n ?_
        refine seq_n ?_
        refine wc_region ?_
        refine rC rfl ik0 ?_
        refine rQ rfl (add_int tab_ok rfl rfl (wrap_i64 (by omega) (by omega))) ?_
        refine rC rfl ik0 ?_
        refine reg_nil ?_
        exact loop_n (j + 1) [] ⟨hjl, fun x hx => by rw [List.take_add_one, ho] at hx; rcases List.mem_append.1 hx with hx | hx; exact hdat x hx; rw [show x = o by simpa using hx]; omega⟩ (by omega) (.of rfl rfl rfl rfl rfl ⟨⟨_, rfl, .refl _⟩, rfl, ⟨_, rfl, .refl _⟩, rfl, ⟨_, rfl, .refl _⟩, rfl, ⟨_, rfl, .refl _⟩, rfl, trivial⟩ trivial)
    · have he : j = p.length := by have := of_decide_eq_false h4; omega
      subst he
      refine wc_exit ?_
      refine seq_x ?_
      refine loop_x ?_
      refine blk_x ?_
      refine blk_n ?_
      refine seq_n ?_
      refine wc_region ?_
      refine rC rfl ik0 ?_
      refine rQ rfl (add_int tab_ok rfl rfl (wrap_i64 (by omega) (by omega))) ?_
      refine rC rfl ik0 ?_
      refine reg_nil ?_
      exact loop_n (i + 1) [] ⟨hlt, by omega, fun x hx => by rw [List.take_add_one, hp] at hx; rcases List.mem_append.1 hx with hx | hx; exact hgood x hx; rw [show x = p by simpa using hx]; exact ⟨by omega, fun o ho => hdat o (by rw [List.take_length]; exact ho)⟩⟩ (by omega) (.of rfl rfl rfl rfl rfl ⟨⟨_, rfl, .refl _⟩, rfl, ⟨_, rfl, .refl _⟩, rfl, ⟨_, rfl, .refl _⟩, rfl, trivial⟩ trivial)
  · have he : i = l.length := by have := of_decide_eq_false h3; omega
    subst he
    rw [List.take_length] at hfl hgood
    rw [show smallB l = true from (small_iff l).2 ⟨by omega, hfl, hgood⟩]
    refine wc_exit ?_
    refine seq_x ?_
    refine loop_x ?_
    refine blk_x ?_
    refine seq_n ?_
    refine sR ?_
    refine rC rfl ik0 ?_
    refine nS ?_
    refine wc_ret ?_
    exact ⟨trivial, [], .of rfl rfl rfl rfl rfl ⟨⟨_, rfl, AVLe.of_eq rfl⟩, rfl, trivial⟩ trivial⟩
end Go.Proofs.YtmojbghcngdkpaaGreatDoor

namespace Go.Proofs.YtmojbghcngdkpaaGreatDoor
open Go.Eng Go.Plain
set_option maxHeartbeats 4000000
set_option maxRecDepth 20000
attribute [local irreducible] WC RegS RegD SeqQ BlkQ ScoQ RegK CutK Sat SatN FnIs LoopQ StepIs OpIs
abbrev r01 (b : Bool) : AV := .d (i6 (if b = true then 1 else 0))
theorem rbad_read (o : POp) (b : Int) (hk : o.kind = 1) (c1 c2 c3 : Bool) (h1 : decide (0 ≤ o.index) = !c1) (h2 : decide (o.index < b) = !c2) (h3 : decide (((byI o.data).length : Int) = 32) = c3) : FnIs Tryz.prog 41 [.d (encPOp o), .int .i64 b] [] (r01 (c1 || c2)) [] := by
  have hk3 : decide (o.kind = 3) = false := decide_eq_false (by omega)
  have hk1 : decide (o.kind = 1) = true := decide_eq_true (by omega)
  refine fnIs_of tab_ok Tryz.func41 rfl rfl rfl ?_
  cases c1 <;> cases c2 <;> cases c3
  · refine wc_seq ?_
    refine wc_region ?_
    refine reg_new (step_C tab_ok (fun K hk => hk)) rfl ?_
    refine rC rfl ik0 ?_
    refine nS ?_
    refine wc_seq ?_
    refine sR ?_
    refine rC rfl ik0 ?_
    refine rQ rfl (load_box tab_ok rfl rfl ⟨_, rfl, rfl⟩ rfl) ?_
    refine nS ?_
    refine wc_block ?_
    refine sR ?_
    iterate 2 refine rC rfl ik0 ?_
    refine nS ?_
    refine wc_false rfl (by assumption) ?_
    refine wc_seq ?_
    refine sR ?_
    iterate 2 refine rC rfl ik0 ?_
    refine nS ?_
    refine wc_true rfl (by assumption) ?_
    refine wc_skip ?_
    refine seq_n ?_
    refine wc_true rfl (by assumption) ?_
    refine sR ?_
    refine rC rfl ik0 ?_
    refine rQ rfl (load_box tab_ok rfl rfl ⟨_, rfl, rfl⟩ rfl) ?_
    iterate 2 refine rC rfl ik0 ?_
    refine reg_on rfl rfl (by assumption) ?_
    refine rC rfl ik0 ?_
    refine reg_on rfl rfl (by assumption) ?_
    refine rQ rfl (load_box tab_ok rfl rfl ⟨_, rfl, rfl⟩ rfl) ?_
    refine reg_on rfl rfl (by assumption) ?_
    refine rC rfl ik0 ?_
    refine reg_on rfl rfl (by assumption) ?_
    refine rC rfl ik0 ?_
    refine rQ rfl (pick_T tab_ok rfl (by assumption) rfl) ?_
    refine rC rfl ik0 ?_
    refine reg_on rfl rfl (by assumption) ?_
    refine rC rfl ik0 ?_
    refine reg_on rfl rfl (by assumption) ?_
    refine rQ rfl (load_box tab_ok rfl rfl ⟨_, rfl, rfl⟩ rfl) ?_
    refine reg_on rfl rfl (by assumption) ?_
    refine rC rfl ik0 ?_
    refine reg_on rfl rfl (by assumption) ?_
    refine rC rfl ik0 ?_
    iterate 4 refine reg_skip rfl rfl (by assumption) rfl rfl ?_
    refine reg_on rfl rfl (by assumption) ?_
    iterate 2 refine rQ rfl (pick_T tab_ok rfl (by assumption) rfl) ?_
    refine nS ?_
    refine wc_true rfl rfl ?_
    refine sR ?_
    refine rC rfl ik0 ?_
    refine nS ?_
    refine wc_ret ?_
    refine blk_r ?_
    refine seq_r ?_
    exact ⟨trivial, [], .of rfl rfl rfl rfl rfl ⟨⟨_, rfl, AVLe.of_eq rfl⟩, rfl, trivial⟩ trivial⟩
  · refine wc_seq ?_
    refine wc_region ?_
    refine reg_new (step_C tab_ok (fun K hk => hk)) rfl ?_
    refine rC rfl ik0 ?_
    refine nS ?_
    refine wc_seq ?_
    refine sR ?_
    refine rC rfl ik0 ?_
    refine rQ rfl (load_box tab_ok rfl rfl ⟨_, rfl, rfl⟩ rfl) ?_
    refine nS ?_
    refine wc_block ?_
    refine sR ?_
    iterate 2 refine rC rfl ik0 ?_
    refine nS ?_
    refine wc_false rfl (by assumption) ?_
    refine wc_seq ?_
    refine sR ?_
    iterate 2 refine rC rfl ik0 ?_
    refine nS ?_
    refine wc_true rfl (by assumption) ?_
    refine wc_skip ?_
    refine seq_n ?_
    refine wc_true rfl (by assumption) ?_
    refine sR ?_
    refine rC rfl ik0 ?_
    refine rQ rfl (load_box tab_ok rfl rfl ⟨_, rfl, rfl⟩ rfl) ?_
    iterate 2 refine rC rfl ik0 ?_
    refine reg_on rfl rfl (by assumption) ?_
    refine rC rfl ik0 ?_
    refine reg_on rfl rfl (by assumption) ?_
    refine rQ rfl (load_box tab_ok rfl rfl ⟨_, rfl, rfl⟩ rfl) ?_
    refine reg_on rfl rfl (by assumption) ?_
    refine rC rfl ik0 ?_
    refine reg_on rfl rfl (by assumption) ?_
    refine rC rfl ik0 ?_
    refine rQ rfl (pick_T tab_ok rfl (by assumption) rfl) ?_
    refine rC rfl ik0 ?_
    refine reg_on rfl rfl (by assumption) ?_
    refine rC rfl ik0 ?_
    refine reg_on rfl rfl (by assumption) ?_
    refine rQ rfl (load_box tab_ok rfl rfl ⟨_, rfl, rfl⟩ rfl) ?_
    refine reg_on rfl rfl (by assumption) ?_
    refine rC rfl ik0 ?_
    refine reg_on rfl rfl (by assumption) ?_
    refine rC rfl ik0 ?_
    iterate 4 refine reg_skip rfl rfl (by assumption) rfl rfl ?_
    refine reg_on rfl rfl (by assumption) ?_
    iterate 2 refine rQ rfl (pick_T tab_ok rfl (by assumption) rfl) ?_
    refine nS ?_
    refine wc_true rfl rfl ?_
    refine sR ?_
    refine rC rfl ik0 ?_
    refine nS ?_
    refine wc_ret ?_
    refine blk_r ?_
    refine seq_r ?_
    exact ⟨trivial, [], .of rfl rfl rfl rfl rfl ⟨⟨_, rfl, AVLe.of_eq rfl⟩, rfl, trivial⟩ trivial⟩
  · refine wc_seq ?_
    refine wc_region ?_
    refine reg_new (step_C tab_ok (fun K hk => hk)) rfl ?_
    refine rC rfl ik0 ?_
    refine nS ?_
    refine wc_seq ?_
    refine sR ?_
    refine rC rfl ik0 ?_
    refine rQ rfl (load_box tab_ok rfl rfl ⟨_, rfl, rfl⟩ rfl) ?_
    refine nS ?_
    refine wc_block ?_
    refine sR ?_
    iterate 2 refine rC rfl ik0 ?_
    refine nS ?_
    refine wc_false rfl (by assumption) ?_
    refine wc_seq ?_
    refine sR ?_
    iterate 2 refine rC rfl ik0 ?_
    refine nS ?_
    refine wc_true rfl (by assumption) ?_
    refine wc_skip ?_
    refine seq_n ?_
    refine wc_true rfl (by assumption) ?_
    refine sR ?_
    refine rC rfl ik0 ?_
    refine rQ rfl (load_box tab_ok rfl rfl ⟨_, rfl, rfl⟩ rfl) ?_
    iterate 2 refine rC rfl ik0 ?_
    refine reg_on rfl rfl (by assumption) ?_
    refine rC rfl ik0 ?_
    refine reg_on rfl rfl (by assumption) ?_
    refine rQ rfl (load_box tab_ok rfl rfl ⟨_, rfl, rfl⟩ rfl) ?_
    refine reg_on rfl rfl (by assumption) ?_
    refine rC rfl ik0 ?_
    refine reg_on rfl rfl (by assumption) ?_
    refine rC rfl ik0 ?_
    refine rQ rfl (pick_T tab_ok rfl (by assumption) rfl) ?_
    refine rC rfl ik0 ?_
    iterate 4 refine reg_skip rfl rfl (by assumption) rfl rfl ?_
    iterate 4 refine reg_skipU rfl rfl rfl rfl ?_
    refine reg_skip rfl rfl (by assumption) rfl rfl ?_
    refine rQ rfl (pick_F tab_ok rfl (by assumption) rfl) ?_
    refine nS ?_
    refine wc_false rfl rfl ?_
    refine wc_skip ?_
    refine blk_n ?_
    refine seq_n ?_
    refine sR ?_
    refine rC rfl ik0 ?_
    refine nS ?_
    refine wc_ret ?_
    exact ⟨trivial, [], .of rfl rfl rfl rfl rfl ⟨⟨_, rfl, AVLe.of_eq rfl⟩, rfl, trivial⟩ trivial⟩
  · refine wc_seq ?_
    refine wc_region ?_
    refine reg_new (step_C tab_ok (fun K hk => hk)) rfl ?_
    refine rC rfl ik0 ?_
    refine nS ?_
    refine wc_seq ?_
    refine sR ?_
    refine rC rfl ik0 ?_
    refine rQ rfl (load_box tab_ok rfl rfl ⟨_, rfl, rfl⟩ rfl) ?_
    refine nS ?_
    refine wc_block ?_
    refine sR ?_
    iterate 2 refine rC rfl ik0 ?_
    refine nS ?_
    refine wc_false rfl (by assumption) ?_
    refine wc_seq ?_
    refine sR ?_
    iterate 2 refine rC rfl ik0 ?_
    refine nS ?_
    refine wc_true rfl (by assumption) ?_
    refine wc_skip ?_
    refine seq_n ?_
    refine wc_true rfl (by assumption) ?_
    refine sR ?_
    refine rC rfl ik0 ?_
    refine rQ rfl (load_box tab_ok rfl rfl ⟨_, rfl, rfl⟩ rfl) ?_
    iterate 2 refine rC rfl ik0 ?_
    refine reg_on rfl rfl (by assumption) ?_
    refine rC rfl ik0 ?_
    refine reg_on rfl rfl (by assumption) ?_
    refine rQ rfl (load_box tab_ok rfl rfl ⟨_, rfl, rfl⟩ rfl) ?_
    refine reg_on rfl rfl (by assumption) ?_
    refine rC rfl ik0 ?_
    refine reg_on rfl rfl (by assumption) ?_
    refine rC rfl ik0 ?_
    refine rQ rfl (pick_T tab_ok rfl (by assumption) rfl) ?_
    refine rC rfl ik0 ?_
    iterate 4 refine reg_skip rfl rfl (by assumption) rfl rfl ?_
    iterate 4 refine reg_skipU rfl rfl rfl rfl ?_
    refine reg_skip rfl rfl (by assumption) rfl rfl ?_
    refine rQ rfl (pick_F tab_ok rfl (by assumption) rfl) ?_
    refine nS ?_
    refine wc_false rfl rfl ?_
    refine wc_skip ?_
    refine blk_n ?_
    refine seq_n ?_
    refine sR ?_
    refine rC rfl ik0 ?_
    refine nS ?_
    refine wc_ret ?_
    exact ⟨trivial, [], .of rfl rfl rfl rfl rfl ⟨⟨_, rfl, AVLe.of_eq rfl⟩, rfl, trivial⟩ trivial⟩
  · refine wc_seq ?_
    refine wc_region ?_
    refine reg_new (step_C tab_ok (fun K hk => hk)) rfl ?_
    refine rC rfl ik0 ?_
    refine nS ?_
    refine wc_seq ?_
    refine sR ?_
    refine rC rfl ik0 ?_
    refine rQ rfl (load_box tab_ok rfl rfl ⟨_, rfl, rfl⟩ rfl) ?_
    refine nS ?_
    refine wc_block ?_
    refine sR ?_
    iterate 2 refine rC rfl ik0 ?_
    refine nS ?_
    refine wc_false rfl (by assumption) ?_
    refine wc_seq ?_
    refine sR ?_
    iterate 2 refine rC rfl ik0 ?_
    refine nS ?_
    refine wc_true rfl (by assumption) ?_
    refine wc_skip ?_
    refine seq_n ?_
    refine wc_true rfl (by assumption) ?_
    refine sR ?_
    refine rC rfl ik0 ?_
    refine rQ rfl (load_box tab_ok rfl rfl ⟨_, rfl, rfl⟩ rfl) ?_
    iterate 2 refine rC rfl ik0 ?_
    iterate 4 refine reg_skip rfl rfl (by assumption) rfl rfl ?_
    refine rQ rfl (pick_F tab_ok rfl (by assumption) rfl) ?_
    refine rC rfl ik0 ?_
    iterate 4 refine reg_skip rfl rfl rfl rfl rfl ?_
    iterate 4 refine reg_skipU rfl rfl rfl rfl ?_
    refine reg_skip rfl rfl rfl rfl rfl ?_
    refine rQ rfl (pick_F tab_ok rfl rfl rfl) ?_
    refine nS ?_
    refine wc_false rfl rfl ?_
    refine wc_skip ?_
    refine blk_n ?_
    refine seq_n ?_
    refine sR ?_
    refine rC rfl ik0 ?_
    refine nS ?_
    refine wc_ret ?_
    exact ⟨trivial, [], .of rfl rfl rfl rfl rfl ⟨⟨_, rfl, AVLe.of_eq rfl⟩, rfl, trivial⟩ trivial⟩
  · refine wc_seq ?_
    refine wc_region ?_
    refine reg_new (step_C tab_ok (fun K hk => hk)) rfl ?_
    refine rC rfl ik0 ?_
    refine nS ?_
    refine wc_seq ?_
    refine sR ?_
    refine rC rfl ik0 ?_
    refine rQ rfl (load_box tab_ok rfl rfl ⟨_, rfl, rfl⟩ rfl) ?_
    refine nS ?_
    refine wc_block ?_
    refine sR ?_
    iterate 2 refine rC rfl ik0 ?_
    refine nS ?_
    refine wc_false rfl (by assumption) ?_
    refine wc_seq ?_
    refine sR ?_
    iterate 2 refine rC rfl ik0 ?_
    refine nS ?_
    refine wc_true rfl (by assumption) ?_
    refine wc_skip ?_
    refine seq_n ?_
    refine wc_true rfl (by assumption) ?_
    refine sR ?_
    refine rC rfl ik0 ?_
    refine rQ rfl (load_box tab_ok rfl rfl ⟨_, rfl, rfl⟩ rfl) ?_
    iterate 2 refine rC rfl ik0 ?_
    iterate 4 refine reg_skip rfl rfl (by assumption) rfl rfl ?_
    refine rQ rfl (pick_F tab_ok rfl (by assumption) rfl) ?_
    refine rC rfl ik0 ?_
    iterate 4 refine reg_skip rfl rfl rfl rfl rfl ?_
    iterate 4 refine reg_skipU rfl rfl rfl rfl ?_
    refine reg_skip rfl rfl rfl rfl rfl ?_
    refine rQ rfl (pick_F tab_ok rfl rfl rfl) ?_
    refine nS ?_
    refine wc_false rfl rfl ?_
    refine wc_skip ?_
    refine blk_n ?_
    refine seq_n ?_
    refine sR ?_
    refine rC rfl ik0 ?_
    refine nS ?_
    refine wc_ret ?_
    exact ⟨trivial, [], .of rfl rfl rfl rfl rfl ⟨⟨_, rfl, AVLe.of_eq rfl⟩, rfl, trivial⟩ trivial⟩
  · refine wc_seq ?_
    refine wc_region ?_
    refine reg_new (step_C tab_ok (fun K hk => hk)) rfl ?_
    refine rC rfl ik0 ?_
    refine nS ?_
    refine wc_seq ?_
    refine sR ?_
    refine rC rfl ik0 ?_
    refine rQ rfl (load_box tab_ok rfl rfl ⟨_, rfl, rfl⟩ rfl) ?_
    refine nS ?_
    refine wc_block ?_
    refine sR ?_
    iterate 2 refine rC rfl ik0 ?_
    refine nS ?_
    refine wc_false rfl (by assumption) ?_
    refine wc_seq ?_
    refine sR ?_
    iterate 2 refine rC rfl ik0 ?_
    refine nS ?_
    refine wc_true rfl (by assumption) ?_
    refine wc_skip ?_
    refine seq_n ?_
    refine wc_true rfl (by assumption) ?_
    refine sR ?_
    refine rC rfl ik0 ?_
    refine rQ rfl (load_box tab_ok rfl rfl ⟨_, rfl, rfl⟩ rfl) ?_
    iterate 2 refine rC rfl ik0 ?_
    iterate 4 refine reg_skip rfl rfl (by assumption) rfl rfl ?_
    refine rQ rfl (pick_F tab_ok rfl (by assumption) rfl) ?_
    refine rC rfl ik0 ?_
    iterate 4 refine reg_skip rfl rfl rfl rfl rfl ?_
    iterate 4 refine reg_skipU rfl rfl rfl rfl ?_
    refine reg_skip rfl rfl rfl rfl rfl ?_
    refine rQ rfl (pick_F tab_ok rfl rfl rfl) ?_
    refine nS ?_
    refine wc_false rfl rfl ?_
    refine wc_skip ?_
    refine blk_n ?_
    refine seq_n ?_
    refine sR ?_
    refine rC rfl ik0 ?_
    refine nS ?_
    refine wc_ret ?_
    exact ⟨trivial, [], .of rfl rfl rfl rfl rfl ⟨⟨_, rfl, AVLe.of_eq rfl⟩, rfl, trivial⟩ trivial⟩
  · refine wc_seq ?_
    refine wc_region ?_
    refine reg_new (step_C tab_ok (fun K hk => hk)) rfl ?_
    refine rC rfl ik0 ?_
    refine nS ?_
    refine wc_seq ?_
    refine sR ?_
    refine rC rfl ik0 ?_
    refine rQ rfl (load_box tab_ok rfl rfl ⟨_, rfl, rfl⟩ rfl) ?_
    refine nS ?_
    refine wc_block ?_
    refine sR ?_
    iterate 2 refine rC rfl ik0 ?_
    refine nS ?_
    refine wc_false rfl (by assumption) ?_
    refine wc_seq ?_
    refine sR ?_
    iterate 2 refine rC rfl ik0 ?_
    refine nS ?_
    refine wc_true rfl (by assumption) ?_
    refine wc_skip ?_
    refine seq_n ?_
    refine wc_true rfl (by assumption) ?_
    refine sR ?_
    refine rC rfl ik0 ?_
    refine rQ rfl (load_box tab_ok rfl rfl ⟨_, rfl, rfl⟩ rfl) ?_
    iterate 2 refine rC rfl ik0 ?_
    iterate 4 refine reg_skip rfl rfl (by assumption) rfl rfl ?_
    refine rQ rfl (pick_F tab_ok rfl (by assumption) rfl) ?_
    refine rC rfl ik0 ?_
    iterate 4 refine reg_skip rfl rfl rfl rfl rfl ?_
    iterate 4 refine reg_skipU rfl rfl rfl rfl ?_
    refine reg_skip rfl rfl rfl rfl rfl ?_
    refine rQ rfl (pick_F tab_ok rfl rfl rfl) ?_
    refine nS ?_
    refine wc_false rfl rfl ?_
    refine wc_skip ?_
    refine blk_n ?_
    refine seq_n ?_
    refine sR ?_
    refine rC rfl ik0 ?_
    refine nS ?_
    refine wc_ret ?_
    exact ⟨trivial, [], .of rfl rfl rfl rfl rfl ⟨⟨_, rfl, AVLe.of_eq rfl⟩, rfl, trivial⟩ trivial⟩
theorem rbad_write (o : POp) (b : Int) (hk : o.kind = 2) (c1 c2 c3 : Bool) (h1 : decide (0 ≤ o.index) = !c1) (h2 : decide (o.index < b) = !c2) (h3 : decide (((byI o.data).length : Int) = 32) = c3) : FnIs Tryz.prog 41 [.d (encPOp o), .int .i64 b] [] (r01 (c1 || c2 || !c3)) [] := by
  have hk3 : decide (o.kind = 3) = false := decide_eq_false (by omega)
  have hk1 : decide (o.kind = 1) = false := decide_eq_false (by omega)
  have hk2 : decide (o.kind = 2) = true := decide_eq_true (by omega)
  refine fnIs_of tab_ok Tryz.func41 rfl rfl rfl ?_
  cases c1 <;> cases c2 <;> cases c3
  · refine wc_seq ?_
    refine wc_region ?_
    refine reg_new (step_C tab_ok (fun K hk => hk)) rfl ?_
    refine rC rfl ik0 ?_
    refine nS ?_
    refine wc_seq ?_
    refine sR ?_
    refine rC rfl ik0 ?_
    refine rQ rfl (load_box tab_ok rfl rfl ⟨_, rfl, rfl⟩ rfl) ?_
    refine nS ?_
    refine wc_block ?_
    refine sR ?_
    iterate 2 refine rC rfl ik0 ?_
    refine nS ?_
    refine wc_false rfl (by assumption) ?_
    refine wc_seq ?_
    refine sR ?_
    iterate 2 refine rC rfl ik0 ?_
    refine nS ?_
    refine wc_false rfl (by assumption) ?_
    refine wc_region ?_
    iterate 2 refine rC rfl ik0 ?_
    refine nS ?_
    refine wc_true rfl (by assumption) ?_
    refine sR ?_
    refine rC rfl ik0 ?_
    refine rQ rfl (load_box tab_ok rfl rfl ⟨_, rfl, rfl⟩ rfl) ?_
    iterate 2 refine rC rfl ik0 ?_
    refine reg_on rfl rfl (by assumption) ?_
    refine rC rfl ik0 ?_
    refine reg_on rfl rfl (by assumption) ?_
    refine rQ rfl (load_box tab_ok rfl rfl ⟨_, rfl, rfl⟩ rfl) ?_
    refine reg_on rfl rfl (by assumption) ?_
    refine rC rfl ik0 ?_
    refine reg_on rfl rfl (by assumption) ?_
    refine rC rfl ik0 ?_
    refine rQ rfl (pick_T tab_ok rfl (by assumption) rfl) ?_
    refine rC rfl ik0 ?_
    refine reg_on rfl rfl (by assumption) ?_
    refine rC rfl ik0 ?_
    refine reg_on rfl rfl (by assumption) ?_
    refine rQ rfl (load_box tab_ok rfl rfl ⟨_, rfl, rfl⟩ rfl) ?_
    refine reg_on rfl rfl (by assumption) ?_
    refine rC rfl ik0 ?_
    refine reg_on rfl rfl (by assumption) ?_
    refine rC rfl ik0 ?_
    refine reg_on rfl rfl (by assumption) ?_
    refine rC rfl ik0 ?_
    refine reg_on rfl rfl (by assumption) ?_
    refine rQ rfl (load_box tab_ok rfl rfl ⟨_, rfl, rfl⟩ rfl) ?_
    refine reg_on rfl rfl (by assumption) ?_
    refine rQ rfl (len_arr tab_ok rfl rfl) ?_
    refine reg_on rfl rfl (by assumption) ?_
    refine rC rfl ik0 ?_
    refine reg_on rfl rfl (by assumption) ?_
    refine rQ rfl (pick_F tab_ok rfl (by assumption) rfl) ?_
    refine rQ rfl (pick_T tab_ok rfl (by assumption) rfl) ?_
    refine nS ?_
    refine wc_false rfl (by assumption) ?_
    refine wc_skip ?_
    refine blk_n ?_
    refine seq_n ?_
    refine sR ?_
    refine rC rfl ik0 ?_
    refine nS ?_
    refine wc_ret ?_
    exact ⟨trivial, [], .of rfl rfl rfl rfl rfl ⟨⟨_, rfl, AVLe.of_eq rfl⟩, rfl, trivial⟩ trivial⟩
  · refine wc_seq ?_
    refine wc_region ?_
    refine reg_new (step_C tab_ok (fun K hk => hk)) rfl ?_
    refine rC rfl ik0 ?_
    refine nS ?_
    refine wc_seq ?_
    refine sR ?_
    refine rC rfl ik0 ?_
    refine rQ rfl (load_box tab_ok rfl rfl ⟨_, rfl, rfl⟩ rfl) ?_
    refine nS ?_
    refine wc_block ?_
    refine sR ?_
    iterate 2 refine rC rfl ik0 ?_
    refine nS ?_
    refine wc_false rfl (by assumption) ?_
    refine wc_seq ?_
    refine sR ?_
    iterate 2 refine rC rfl ik0 ?_
    refine nS ?_
    refine wc_false rfl (by assumption) ?_
    refine wc_region ?_
    iterate 2 refine rC rfl ik0 ?_
    refine nS ?_
    refine wc_true rfl (by assumption) ?_
    refine sR ?_
    refine rC rfl ik0 ?_
    refine rQ rfl (load_box tab_ok rfl rfl ⟨_, rfl, rfl⟩ rfl) ?_
    iterate 2 refine rC rfl ik0 ?_
    refine reg_on rfl rfl (by assumption) ?_
    refine rC rfl ik0 ?_
    refine reg_on rfl rfl (by assumption) ?_
    refine rQ rfl (load_box tab_ok rfl rfl ⟨_, rfl, rfl⟩ rfl) ?_
    refine reg_on rfl rfl (by assumption) ?_
    refine rC rfl ik0 ?_
    refine reg_on rfl rfl (by assumption) ?_
    refine rC rfl ik0 ?_
    refine rQ rfl (pick_T tab_ok rfl (by assumption) rfl) ?_
    refine rC rfl ik0 ?_
    refine reg_on rfl rfl (by assumption) ?_
    refine rC rfl ik0 ?_
    refine reg_on rfl rfl (by assumption) ?_
    refine rQ rfl (load_box tab_ok rfl rfl ⟨_, rfl, rfl⟩ rfl) ?_
    refine reg_on rfl rfl (by assumption) ?_
    refine rC rfl ik0 ?_
    refine reg_on rfl rfl (by assumption) ?_
    refine rC rfl ik0 ?_
    refine reg_on rfl rfl (by assumption) ?_
    refine rC rfl ik0 ?_
    refine reg_on rfl rfl (by assumption) ?_
    refine rQ rfl (load_box tab_ok rfl rfl ⟨_, rfl, rfl⟩ rfl) ?_
    refine reg_on rfl rfl (by assumption) ?_
    refine rQ rfl (len_arr tab_ok rfl rfl) ?_
    refine reg_on rfl rfl (by assumption) ?_
    refine rC rfl ik0 ?_
    refine reg_on rfl rfl (by assumption) ?_
    refine rQ rfl (pick_F tab_ok rfl (by assumption) rfl) ?_
    refine rQ rfl (pick_T tab_ok rfl (by assumption) rfl) ?_
    refine nS ?_
    refine wc_true rfl (by assumption) ?_
    refine sR ?_
    refine rC rfl ik0 ?_
    refine nS ?_
    refine wc_ret ?_
    refine blk_r ?_
    refine seq_r ?_
    exact ⟨trivial, [], .of rfl rfl rfl rfl rfl ⟨⟨_, rfl, AVLe.of_eq rfl⟩, rfl, trivial⟩ trivial⟩
  · refine wc_seq ?_
    refine wc_region ?_
    refine reg_new (step_C tab_ok (fun K hk => hk)) rfl ?_
    refine rC rfl ik0 ?_
    refine nS ?_
    refine wc_seq ?_
    refine sR ?_
    refine rC rfl ik0 ?_
    refine rQ rfl (load_box tab_ok rfl rfl ⟨_, rfl, rfl⟩ rfl) ?_
    refine nS ?_
    refine wc_block ?_
    refine sR ?_
    iterate 2 refine rC rfl ik0 ?_
    refine nS ?_
    refine wc_false rfl (by assumption) ?_
    refine wc_seq ?_
    refine sR ?_
    iterate 2 refine rC rfl ik0 ?_
    refine nS ?_
    refine wc_false rfl (by assumption) ?_
    refine wc_region ?_
    iterate 2 refine rC rfl ik0 ?_
    refine nS ?_
    refine wc_true rfl (by assumption) ?_
    refine sR ?_
    refine rC rfl ik0 ?_
    refine rQ rfl (load_box tab_ok rfl rfl ⟨_, rfl, rfl⟩ rfl) ?_
    iterate 2 refine rC rfl ik0 ?_
    refine reg_on rfl rfl (by assumption) ?_
    refine rC rfl ik0 ?_
    refine reg_on rfl rfl (by assumption) ?_
    refine rQ rfl (load_box tab_ok rfl rfl ⟨_, rfl, rfl⟩ rfl) ?_
    refine reg_on rfl rfl (by assumption) ?_
    refine rC rfl ik0 ?_
    refine reg_on rfl rfl (by assumption) ?_
    refine rC rfl ik0 ?_
    refine rQ rfl (pick_T tab_ok rfl (by assumption) rfl) ?_
    refine rC rfl ik0 ?_
    iterate 4 refine reg_skip rfl rfl (by assumption) rfl rfl ?_
    iterate 4 refine reg_skipU rfl rfl rfl rfl ?_
    refine reg_skip rfl rfl (by assumption) rfl rfl ?_
    refine rQ rfl (pick_F tab_ok rfl (by assumption) rfl) ?_
    refine nS ?_
    refine wc_false rfl rfl ?_
    refine wc_skip ?_
    refine blk_n ?_
    refine seq_n ?_
    refine sR ?_
    refine rC rfl ik0 ?_
    refine nS ?_
    refine wc_ret ?_
    exact ⟨trivial, [], .of rfl rfl rfl rfl rfl ⟨⟨_, rfl, AVLe.of_eq rfl⟩, rfl, trivial⟩ trivial⟩
  · refine wc_seq ?_
    refine wc_region ?_
    refine reg_new (step_C tab_ok (fun K hk => hk)) rfl ?_
    refine rC rfl ik0 ?_
    refine nS ?_
    refine wc_seq ?_
    refine sR ?_
    refine rC rfl ik0 ?_
    refine rQ rfl (load_box tab_ok rfl rfl ⟨_, rfl, rfl⟩ rfl) ?_
    refine nS ?_
    refine wc_block ?_
    refine sR ?_
    iterate 2 refine rC rfl ik0 ?_
    refine nS ?_
    refine wc_false rfl (by assumption) ?_
    refine wc_seq ?_
    refine sR ?_
    iterate 2 refine rC rfl ik0 ?_
    refine nS ?_
    refine wc_false rfl (by assumption) ?_
    refine wc_region ?_
    iterate 2 refine rC rfl ik0 ?_
    refine nS ?_
    refine wc_true rfl (by assumption) ?_
    refine sR ?_
    refine rC rfl ik0 ?_
    refine rQ rfl (load_box tab_ok rfl rfl ⟨_, rfl, rfl⟩ rfl) ?_
    iterate 2 refine rC rfl ik0 ?_
    refine reg_on rfl rfl (by assumption) ?_
    refine rC rfl ik0 ?_
    refine reg_on rfl rfl (by assumption) ?_
    refine rQ rfl (load_box tab_ok rfl rfl ⟨_, rfl, rfl⟩ rfl) ?_
    refine reg_on rfl rfl (by assumption) ?_
    refine rC rfl ik0 ?_
    refine reg_on rfl rfl (by assumption) ?_
    refine rC rfl ik0 ?_
    refine rQ rfl (pick_T tab_ok rfl (by assumption) rfl) ?_
    refine rC rfl ik0 ?_
    iterate 4 refine reg_skip rfl rfl (by assumption) rfl rfl ?_
    iterate 4 refine reg_skipU rfl rfl rfl rfl ?_
    refine reg_skip rfl rfl (by assumption) rfl rfl ?_
    refine rQ rfl (pick_F tab_ok rfl (by assumption) rfl) ?_
    refine nS ?_
    refine wc_false rfl rfl ?_
    refine wc_skip ?_
    refine blk_n ?_
    refine seq_n ?_
    refine sR ?_
    refine rC rfl ik0 ?_
    refine nS ?_
    refine wc_ret ?_
    exact ⟨trivial, [], .of rfl rfl rfl rfl rfl ⟨⟨_, rfl, AVLe.of_eq rfl⟩, rfl, trivial⟩ trivial⟩
  · refine wc_seq ?_
    refine wc_region ?_
    refine reg_new (step_C tab_ok (fun K hk => hk)) rfl ?_
    refine rC rfl ik0 ?_
    refine nS ?_
    refine wc_seq ?_
    refine sR ?_
    refine rC rfl ik0 ?_
    refine rQ rfl (load_box tab_ok rfl rfl ⟨_, rfl, rfl⟩ rfl) ?_
    refine nS ?_
    refine wc_block ?_
    refine sR ?_
    iterate 2 refine rC rfl ik0 ?_
    refine nS ?_
    refine wc_false rfl (by assumption) ?_
    refine wc_seq ?_
    refine sR ?_
    iterate 2 refine rC rfl ik0 ?_
    refine nS ?_
    refine wc_false rfl (by assumption) ?_
    refine wc_region ?_
    iterate 2 refine rC rfl ik0 ?_
    refine nS ?_
    refine wc_true rfl (by assumption) ?_
    refine sR ?_
    refine rC rfl ik0 ?_
    refine rQ rfl (load_box tab_ok rfl rfl ⟨_, rfl, rfl⟩ rfl) ?_
    iterate 2 refine rC rfl ik0 ?_
    iterate 4 refine reg_skip rfl rfl (by assumption) rfl rfl ?_
    refine rQ rfl (pick_F tab_ok rfl (by assumption) rfl) ?_
    refine rC rfl ik0 ?_
    iterate 4 refine reg_skip rfl rfl rfl rfl rfl ?_
    iterate 4 refine reg_skipU rfl rfl rfl rfl ?_
    refine reg_skip rfl rfl rfl rfl rfl ?_
    refine rQ rfl (pick_F tab_ok rfl rfl rfl) ?_
    refine nS ?_
    refine wc_false rfl rfl ?_
    refine wc_skip ?_
    refine blk_n ?_
    refine seq_n ?_
    refine sR ?_
    refine rC rfl ik0 ?_
    refine nS ?_
    refine wc_ret ?_
    exact ⟨trivial, [], .of rfl rfl rfl rfl rfl ⟨⟨_, rfl, AVLe.of_eq rfl⟩, rfl, trivial⟩ trivial⟩
  · refine wc_seq ?_
    refine wc_region ?_
    refine reg_new (step_C tab_ok (fun K hk => hk)) rfl ?_
    refine rC rfl ik0 ?_
    refine nS ?_
    refine wc_seq ?_
    refine sR ?_
    refine rC rfl ik0 ?_
    refine rQ rfl (load_box tab_ok rfl rfl ⟨_, rfl, rfl⟩ rfl) ?_
    refine nS ?_
    refine wc_block ?_
    refine sR ?_
    iterate 2 refine rC rfl ik0 ?_
    refine nS ?_
    refine wc_false rfl (by assumption) ?_
    refine wc_seq ?_
    refine sR ?_
    iterate 2 refine rC rfl ik0 ?_
    refine nS ?_
    refine wc_false rfl (by assumption) ?_
    refine wc_region ?_
    iterate 2 refine rC rfl ik0 ?_
    refine nS ?_
    refine wc_true rfl (by assumption) ?_
    refine sR ?_
    refine rC rfl ik0 ?_
    refine rQ rfl (load_box tab_ok rfl rfl ⟨_, rfl, rfl⟩ rfl) ?_
    iterate 2 refine rC rfl ik0 ?_
    iterate 4 refine reg_skip rfl rfl (by assumption) rfl rfl ?_
    refine rQ rfl (pick_F tab_ok rfl (by assumption) rfl) ?_
    refine rC rfl ik0 ?_
    iterate 4 refine reg_skip rfl rfl rfl rfl rfl ?_
    iterate 4 refine reg_skipU rfl rfl rfl rfl ?_
    refine reg_skip rfl rfl rfl rfl rfl ?_
    refine rQ rfl (pick_F tab_ok rfl rfl rfl) ?_
    refine nS ?_
    refine wc_false rfl rfl ?_
    refine wc_skip ?_
    refine blk_n ?_
    refine seq_n ?_
    refine sR ?_
    refine rC rfl ik0 ?_
    refine nS ?_
    refine wc_ret ?_
    exact ⟨trivial, [], .of rfl rfl rfl rfl rfl ⟨⟨_, rfl, AVLe.of_eq rfl⟩, rfl, trivial⟩ trivial⟩
  · refine wc_seq ?_
    refine wc_region ?_
    refine reg_new (step_C tab_ok (fun K hk => hk)) rfl ?_
    refine rC rfl ik0 ?_
    refine nS ?_
    refine wc_seq ?_
    refine sR ?_
    refine rC rfl ik0 ?_
    refine rQ rfl (load_box tab_ok rfl rfl ⟨_, rfl, rfl⟩ rfl) ?_
    refine nS ?_
    refine wc_block ?_
    refine sR ?_
    iterate 2 refine rC rfl ik0 ?_
    refine nS ?_
    refine wc_false rfl (by assumption) ?_
    refine wc_seq ?_
    refine sR ?_
    iterate 2 refine rC rfl ik0 ?_
    refine nS ?_
    refine wc_false rfl (by assumption) ?_
    refine wc_region ?_
    iterate 2 refine rC rfl ik0 ?_
    refine nS ?_
    refine wc_true rfl (by assumption) ?_
    refine sR ?_
    refine rC rfl ik0 ?_
    refine rQ rfl (load_box tab_ok rfl rfl ⟨_, rfl, rfl⟩ rfl) ?_
    iterate 2 refine rC rfl ik0 ?_
    iterate 4 refine reg_skip rfl rfl (by assumption) rfl rfl ?_
    refine rQ rfl (pick_F tab_ok rfl (by assumption) rfl) ?_
    refine rC rfl ik0 ?_
    iterate 4 refine reg_skip rfl rfl rfl rfl rfl ?_
    iterate 4 refine reg_skipU rfl rfl rfl rfl ?_
    refine reg_skip rfl rfl rfl rfl rfl ?_
    refine rQ rfl (pick_F tab_ok rfl rfl rfl) ?_
    refine nS ?_
    refine wc_false rfl rfl ?_
    refine wc_skip ?_
    refine blk_n ?_
    refine seq_n ?_
    refine sR ?_
    refine rC rfl ik0 ?_
    refine nS ?_
    refine wc_ret ?_
    exact ⟨trivial, [], .of rfl rfl rfl rfl rfl ⟨⟨_, rfl, AVLe.of_eq rfl⟩, rfl, trivial⟩ trivial⟩
  · refine wc_seq ?_
    refine wc_region ?_
    refine reg_new (step_C tab_ok (fun K hk => hk)) rfl ?_
    refine rC rfl ik0 ?_
    refine nS ?_
    refine wc_seq ?_
    refine sR ?_
    refine rC rfl ik0 ?_
    refine rQ rfl (load_box tab_ok rfl rfl ⟨_, rfl, rfl⟩ rfl) ?_
    refine nS ?_
    refine wc_block ?_
    refine sR ?_
    iterate 2 refine rC rfl ik0 ?_
    refine nS ?_
    refine wc_false rfl (by assumption) ?_
    refine wc_seq ?_
    refine sR ?_
    iterate 2 refine rC rfl ik0 ?_
    refine nS ?_
    refine wc_false rfl (by assumption) ?_
    refine wc_region ?_
    iterate 2 refine rC rfl ik0 ?_
    refine nS ?_
    refine wc_true rfl (by assumption) ?_
    refine sR ?_
    refine rC rfl ik0 ?_
    refine rQ rfl (load_box tab_ok rfl rfl ⟨_, rfl, rfl⟩ rfl) ?_
    iterate 2 refine rC rfl ik0 ?_
    iterate 4 refine reg_skip rfl rfl (by assumption) rfl rfl ?_
    refine rQ rfl (pick_F tab_ok rfl (by assumption) rfl) ?_
    refine rC rfl ik0 ?_
    iterate 4 refine reg_skip rfl rfl rfl rfl rfl ?_
    iterate 4 refine reg_skipU rfl rfl rfl rfl ?_
    refine reg_skip rfl rfl rfl rfl rfl ?_
    refine rQ rfl (pick_F tab_ok rfl rfl rfl) ?_
    refine nS ?_
    refine wc_false rfl rfl ?_
    refine wc_skip ?_
    refine blk_n ?_
    refine seq_n ?_
    refine sR ?_
    refine rC rfl ik0 ?_
    refine nS ?_
    refine wc_ret ?_
    exact ⟨trivial, [], .of rfl rfl rfl rfl rfl ⟨⟨_, rfl, AVLe.of_eq rfl⟩, rfl, trivial⟩ trivial⟩
theorem rbad_flush (o : POp) (b : Int) (hk : o.kind = 3) : FnIs Tryz.prog 41 [.d (encPOp o), .int .i64 b] [] (r01 false) [] := by
  have hk3 : decide (o.kind = 3) = true := decide_eq_true (by omega)
  refine fnIs_of tab_ok Tryz.func41 rfl rfl rfl ?_
  refine sR ?_
  refine reg_new (step_C tab_ok (fun K hk => hk)) rfl ?_
  refine rC rfl ik0 ?_
  refine nS ?_
  refine wc_seq ?_
  refine sR ?_
  refine rC rfl ik0 ?_
  refine rQ rfl (load_box tab_ok rfl rfl ⟨_, rfl, rfl⟩ rfl) ?_
  refine nS ?_
  refine wc_block ?_
  refine sR ?_
  iterate 2 refine rC rfl ik0 ?_
  refine nS ?_
  refine wc_true rfl (by assumption) ?_
  refine sR ?_
  refine rC rfl ik0 ?_
  refine nS ?_
  refine wc_ret ?_
  refine blk_r ?_
  refine seq_r ?_
  exact ⟨trivial, [], .of rfl rfl rfl rfl rfl ⟨⟨_, rfl, AVLe.of_eq rfl⟩, rfl, trivial⟩ trivial⟩
theorem rbad_other (o : POp) (b : Int) (hk1 : ¬ o.kind = 1) (hk2 : ¬ o.kind = 2) (hk3 : ¬ o.kind = 3) : FnIs Tryz.prog 41 [.d (encPOp o), .int .i64 b] [] (r01 true) [] := by
  have hk3 : decide (o.kind = 3) = false := decide_eq_false (by omega)
  have hk1 : decide (o.kind = 1) = false := decide_eq_false (by omega)
  have hk2 : decide (o.kind = 2) = false := decide_eq_false (by omega)
  refine fnIs_of tab_ok Tryz.func41 rfl rfl rfl ?_
  refine sR ?_
  refine reg_new (step_C tab_ok (fun K hk => hk)) rfl ?_
  refine rC rfl ik0 ?_
  refine nS ?_
  refine wc_seq ?_
  refine sR ?_
  refine rC rfl ik0 ?_
  refine rQ rfl (load_box tab_ok rfl rfl ⟨_, rfl, rfl⟩ rfl) ?_
  refine nS ?_
  refine wc_block ?_
  refine sR ?_
  iterate 2 refine rC rfl ik0 ?_
  refine nS ?_
  refine wc_false rfl (by assumption) ?_
  refine wc_seq ?_
  refine sR ?_
  iterate 2 refine rC rfl ik0 ?_
  refine nS ?_
  refine wc_false rfl (by assumption) ?_
  refine wc_region ?_
  iterate 2 refine rC rfl ik0 ?_
  refine nS ?_
  refine wc_false rfl (by assumption) ?_
  refine wc_skip ?_
  refine blk_n ?_
  refine seq_n ?_
  refine sR ?_
  refine rC rfl ik0 ?_
  refine nS ?_
  refine wc_ret ?_
  exact ⟨trivial, [], .of rfl rfl rfl rfl rfl ⟨⟨_, rfl, AVLe.of_eq rfl⟩, rfl, trivial⟩ trivial⟩
theorem rbad_is (o : POp) (b : Int) : FnIs Tryz.prog 41 [.d (encPOp o), .int .i64 b] [] (r01 (badO o b)) [] := by
  have n1 : decide (0 ≤ o.index) = !decide (o.index < 0) := by
    by_cases h : o.index < 0
    · rw [decide_eq_true h, decide_eq_false (by omega)]; rfl
    · rw [decide_eq_false h, decide_eq_true (by omega)]; rfl
  have n2 : decide (o.index < b) = !decide (b ≤ o.index) := by
    by_cases h : b ≤ o.index
    · rw [decide_eq_true h, decide_eq_false (by omega)]; rfl
    · rw [decide_eq_false h, decide_eq_true (by omega)]; rfl
  by_cases k1 : o.kind = 1
  · have := rbad_read o b k1 _ _ _ n1 n2 rfl
    rwa [show badO o b = (decide (o.index < 0) || decide (b ≤ o.index)) by rw [badO, if_pos k1, outO]]
  · by_cases k2 : o.kind = 2
    · have := rbad_write o b k2 _ _ _ n1 n2 rfl
      rwa [show badO o b = (decide (o.index < 0) || decide (b ≤ o.index) || !decide (((byI o.data).length : Int) = 32)) by rw [badO, if_neg k1, if_pos k2, outO, len32]]
    · by_cases k3 : o.kind = 3
      · have := rbad_flush o b k3
        rwa [show badO o b = false by rw [badO, if_neg k1, if_neg k2, decide_eq_true k3]; rfl]
      · have := rbad_other o b k1 k2 k3
        rwa [show badO o b = true by rw [badO, if_neg k1, if_neg k2, decide_eq_false k3]; rfl]
end Go.Proofs.YtmojbghcngdkpaaGreatDoor

namespace Go.Proofs.YtmojbghcngdkpaaGreatDoor
open Go.Eng Go.Plain
set_option maxHeartbeats 4000000
set_option maxRecDepth 20000
attribute [local irreducible] WC RegS RegD SeqQ BlkQ ScoQ RegK CutK Sat SatN FnIs LoopQ StepIs OpIs
abbrev k4 (l : List POp) : D := .cons (i6 (cK 1 l)) (.cons (i6 (cK 2 l)) (.cons (i6 (cK 3 l)) (.cons (i6 (cO l)) .nil)))
theorem kinds_is (l : List (List POp)) (hok : OkL l) (hL : l.length ≤ 1000000) (hF : l.flatten.length ≤ 1000000) : FnIs Tryz.prog 45 [.d (encPL l)] [] (.d (k4 l.flatten)) [] := by
  refine fnIs_of tab_ok Tryz.func45 rfl rfl rfl ?_
  refine sR ?_
  refine reg_new (step_C tab_ok (fun K hk => hk)) rfl ?_
  refine nR ?_
  refine reg_new (step_C tab_ok (fun K hk => hk)) rfl ?_
  refine nS ?_
  refine wc_seq ?_
  refine sR ?_
  refine rC rfl ik0 ?_
  refine nS ?_
  refine wc_block ?_
  refine wc_inv (fun i : Nat => ⟨[(4, .int .i64 i), (3, .ptr 65 []), (2, .ptr 66 []), (0, .d (encPL l))], [(65, some (.box 84 (.d (k4 (l.take i).flatten)))), (66, some (.box 84 (.d (k4 []))))], 72, Tryz.f45.ntmps, 64⟩) (fun i => i ≤ l.length) (fun i => l.length - i) 0 [(65, some 72), (66, some 64)] (Nat.zero_le _)
    (.of rfl rfl rfl rfl rfl ⟨⟨_, rfl, .refl _⟩, rfl, ⟨_, rfl, .refl _⟩, rfl, ⟨_, rfl, .refl _⟩, rfl, ⟨_, rfl, .refl _⟩, rfl, trivial⟩ ⟨⟨rfl, rfl, _, rfl, .refl _⟩, ⟨rfl, rfl, _, rfl, .refl _⟩, trivial⟩) ?_
  intro i hi
  refine wc_of ?_
  refine wc_seq ?_
  refine sR ?_
  iterate 2 refine rC rfl ik0 ?_
  refine rQ rfl (len_arr tab_ok rfl rfl) ?_
  refine rC rfl ik0 ?_
  refine nS ?_
  refine wc_cond rfl (fun h3 => ?_) (fun h3 => ?_)
  · have hlt : i < l.length := by have := of_decide_eq_true h3; omega
    obtain ⟨p, hp⟩ : ∃ p, l[i]? = some p := ⟨_, List.getElem?_eq_getElem hlt⟩
    have hp' : l[((i : Int)).toNat]? = some p := by rw [Int.toNat_natCast]; exact hp
    have hpm := List.mem_of_getElem? hp
    have hfm := flat_mem_le hp
    rw [← preO_zero l i p]
    refine wc_skip ?_
    refine seq_n ?_
    refine wc_seq ?_
    refine wc_block ?_
    refine sR ?_
    refine rC rfl ik0 ?_
    refine nS ?_
    refine wc_block ?_
    refine wc_inv (fun j : Nat => ⟨[(5, .int .i64 j), (4, .int .i64 i), (3, .ptr 65 []), (2, .ptr 66 []), (0, .d (encPL l))], [(65, some (.box 84 (.d (k4 (preO l i p j))))), (66, some (.box 84 (.d (k4 []))))], 72, Tryz.f45.ntmps, 64⟩) (fun j => j ≤ p.length) (fun j => p.length - j) 0 [] (Nat.zero_le _)
      (.of rfl rfl rfl rfl rfl ⟨⟨_, rfl, .refl _⟩, rfl, ⟨_, rfl, .refl _⟩, rfl, ⟨_, rfl, .refl _⟩, rfl, ⟨_, rfl, .refl _⟩, rfl, ⟨_, rfl, .refl _⟩, rfl, trivial⟩ ⟨⟨rfl, rfl, _, rfl, .refl _⟩, ⟨rfl, rfl, _, rfl, .refl _⟩, trivial⟩) ?_
    intro j hj
    refine wc_of ?_
    refine wc_seq ?_
    refine sR ?_
    iterate 3 refine rC rfl ik0 ?_
    refine rQ rfl (index_arr tab_ok rfl rfl rfl rfl rfl (by omega) (by assumption)) ?_
    refine rQ rfl (load_i tab_ok rfl rfl) ?_
    refine rQ rfl (len_arr tab_ok rfl rfl) ?_
    refine rC rfl ik0 ?_
    refine nS ?_
    refine wc_cond rfl (fun h4 => ?_) (fun h4 => ?_)
    · have hjl : j < p.length := by have := of_decide_eq_true h4; omega
      obtain ⟨o, ho⟩ : ∃ o, p[j]? = some o := ⟨_, List.getElem?_eq_getElem hjl⟩
      have ho' : p[((j : Int)).toNat]? = some o := by rw [Int.toNat_natCast]; exact ho
      have hko := (hok p hpm o (List.mem_of_getElem? ho)).kind
      have hwk : IntKind.i64.wrap o.kind = o.kind := wrap_i64 (by omega) (by omega)
      have hgo := preO_go (l := l) (i := i) ho
      have hle := preO_le (j := j) hp
      have q1 := cK_le 1 (preO l i p j)
      have q2 := cK_le 2 (preO l i p j)
      have q3 := cK_le 3 (preO l i p j)
      have q4 := cO_le (preO l i p j)
      by_cases k1 : o.kind = 1
      · have hw0 : IntKind.i64.wrap (o.kind - 1) = 0 := by rw [k1]; rfl
        have e1 := cK_yes (k := 1) (l := preO l i p j) (o := o) (by omega)
        have e2 := cK_no (k := 2) (l := preO l i p j) (o := o) (by omega)
        have e3 := cK_no (k := 3) (l := preO l i p j) (o := o) (by omega)
        have e4 := cO_no (l := preO l i p j) (o := o) (by omega)
        rw [← hgo] at e1 e2 e3 e4
        have hk4 : k4 (preO l i p (j + 1)) = .cons (i6 ((cK 1 (preO l i p j) + 1 : Nat) : Int)) (.cons (i6 ((cK 2 (preO l i p j) : Nat) : Int)) (.cons (i6 ((cK 3 (preO l i p j) : Nat) : Int)) (.cons (i6 ((cO (preO l i p j) : Nat) : Int)) .nil))) := by simp only [k4, e1, e2, e3, e4]
        refine wc_skip ?_
        refine seq_n ?_
        refine wc_seq ?_
        refine wc_block ?_
        refine sR ?_
        iterate 2 refine rC rfl ik0 ?_
        refine rQ rfl (index_arr tab_ok rfl rfl rfl rfl rfl (by omega) (by assumption)) ?_
        refine rQ rfl (load_i tab_ok rfl rfl) ?_
        refine rC rfl ik0 ?_
        refine rQ rfl (index_arr tab_ok rfl rfl rfl rfl rfl (by omega) (by assumption)) ?_
        refine rC rfl ik0 ?_
        refine rQ rfl (load_i tab_ok rfl rfl) ?_
        refine rQ rfl (conv_int (m := o.kind) tab_ok rfl rfl rfl hwk) ?_
        refine rQ rfl (sub_int (m := 0) tab_ok rfl rfl hw0) ?_
        refine rC rfl ik0 ?_
        refine nS ?_
        refine wc_seq ?_
        refine sR ?_
        iterate 3 refine rC rfl ik0 ?_
        refine reg_on rfl rfl rfl ?_
        refine rC rfl ik0 ?_
        refine reg_on rfl rfl rfl ?_
        refine rC rfl ik0 ?_
        refine rQ rfl (pick_F tab_ok rfl rfl rfl) ?_
        refine nS ?_
        refine wc_false rfl rfl ?_
        refine wc_skip ?_
        refine seq_n ?_
        refine wc_region ?_
        iterate 2 refine rC rfl ik0 ?_
        refine rQ rfl (step_C tab_ok (fun K hk => ⟨by omega, by omega, hk⟩)) ?_
        refine rQ rfl (load_box tab_ok rfl rfl ⟨_, rfl, rfl⟩ rfl) ?_
        refine rQ rfl (add_int tab_ok rfl rfl (wrap_i64 (by omega) (by omega))) ?_
        refine rQ rfl (step_C tab_ok (fun K hk => ⟨by omega, by omega, hk⟩)) ?_
        refine reg_store (store_row tab_ok rfl rfl rfl ⟨_, ⟨_, ⟨_, ⟨rfl, rfl, rfl⟩, rfl⟩, rfl⟩, rfl⟩ rfl) ?_
        refine reg_nil ?_
        refine blk_n ?_
        refine seq_n ?_
        refine wc_region ?_
        refine rC rfl ik0 ?_
        refine rQ rfl (add_int tab_ok rfl rfl (wrap_i64 (by omega) (by omega))) ?_
        refine rC rfl ik0 ?_
        refine reg_nil ?_
        exact loop_n (j + 1) [] hjl (by omega) (.of rfl rfl rfl rfl rfl ⟨⟨_, rfl, .refl _⟩, rfl, ⟨_, rfl, .refl _⟩, rfl, ⟨_, rfl, .refl _⟩, rfl, ⟨_, rfl, .refl _⟩, rfl, ⟨_, rfl, .refl _⟩, rfl, trivial⟩ ⟨⟨rfl, rfl, _, rfl, RowLe.of_eq (by rw [hk4]; rfl)⟩, ⟨rfl, rfl, _, rfl, .refl _⟩, trivial⟩)
      by_cases k2 : o.kind = 2
      · have hw1 : IntKind.i64.wrap (o.kind - 1) = 1 := by rw [k2]; rfl
        have e1 := cK_no (k := 1) (l := preO l i p j) (o := o) (by omega)
        have e2 := cK_yes (k := 2) (l := preO l i p j) (o := o) (by omega)
        have e3 := cK_no (k := 3) (l := preO l i p j) (o := o) (by omega)
        have e4 := cO_no (l := preO l i p j) (o := o) (by omega)
        rw [← hgo] at e1 e2 e3 e4
        have hk4 : k4 (preO l i p (j + 1)) = .cons (i6 ((cK 1 (preO l i p j) : Nat) : Int)) (.cons (i6 ((cK 2 (preO l i p j) + 1 : Nat) : Int)) (.cons (i6 ((cK 3 (preO l i p j) : Nat) : Int)) (.cons (i6 ((cO (preO l i p j) : Nat) : Int)) .nil))) := by simp only [k4, e1, e2, e3, e4]
        refine wc_skip ?_
        refine seq_n ?_
        refine wc_seq ?_
        refine wc_block ?_
        refine sR ?_
        iterate 2 refine rC rfl ik0 ?_
        refine rQ rfl (index_arr tab_ok rfl rfl rfl rfl rfl (by omega) (by assumption)) ?_
        refine rQ rfl (load_i tab_ok rfl rfl) ?_
        refine rC rfl ik0 ?_
        refine rQ rfl (index_arr tab_ok rfl rfl rfl rfl rfl (by omega) (by assumption)) ?_
        refine rC rfl ik0 ?_
        refine rQ rfl (load_i tab_ok rfl rfl) ?_
        refine rQ rfl (conv_int (m := o.kind) tab_ok rfl rfl rfl hwk) ?_
        refine rQ rfl (sub_int (m := 1) tab_ok rfl rfl hw1) ?_
        refine rC rfl ik0 ?_
        refine nS ?_
        refine wc_seq ?_
        refine sR ?_
        iterate 3 refine rC rfl ik0 ?_
        refine reg_on rfl rfl rfl ?_
        refine rC rfl ik0 ?_
        refine reg_on rfl rfl rfl ?_
        refine rC rfl ik0 ?_
        refine rQ rfl (pick_F tab_ok rfl rfl rfl) ?_
        refine nS ?_
        refine wc_false rfl rfl ?_
        refine wc_skip ?_
        refine seq_n ?_
        refine wc_region ?_
        iterate 2 refine rC rfl ik0 ?_
        refine rQ rfl (step_C tab_ok (fun K hk => ⟨by omega, by omega, hk⟩)) ?_
        refine rQ rfl (load_box tab_ok rfl rfl ⟨_, rfl, rfl⟩ rfl) ?_
        refine rQ rfl (add_int tab_ok rfl rfl (wrap_i64 (by omega) (by omega))) ?_
        refine rQ rfl (step_C tab_ok (fun K hk => ⟨by omega, by omega, hk⟩)) ?_
        refine reg_store (store_row tab_ok rfl rfl rfl ⟨_, ⟨_, ⟨_, ⟨rfl, rfl, rfl⟩, rfl⟩, rfl⟩, rfl⟩ rfl) ?_
        refine reg_nil ?_
        refine blk_n ?_
        refine seq_n ?_
        refine wc_region ?_
        refine rC rfl ik0 ?_
        refine rQ rfl (add_int tab_ok rfl rfl (wrap_i64 (by omega) (by omega))) ?_
        refine rC rfl ik0 ?_
        refine reg_nil ?_
        exact loop_n (j + 1) [] hjl (by omega) (.of rfl rfl rfl rfl rfl ⟨⟨_, rfl, .refl _⟩, rfl, ⟨_, rfl, .refl _⟩, rfl, ⟨_, rfl, .refl _⟩, rfl, ⟨_, rfl, .refl _⟩, rfl, ⟨_, rfl, .refl _⟩, rfl, trivial⟩ ⟨⟨rfl, rfl, _, rfl, RowLe.of_eq (by rw [hk4]; rfl)⟩, ⟨rfl, rfl, _, rfl, .refl _⟩, trivial⟩)
      by_cases k3 : o.kind = 3
      · have hw2 : IntKind.i64.wrap (o.kind - 1) = 2 := by rw [k3]; rfl
        have e1 := cK_no (k := 1) (l := preO l i p j) (o := o) (by omega)
        have e2 := cK_no (k := 2) (l := preO l i p j) (o := o) (by omega)
        have e3 := cK_yes (k := 3) (l := preO l i p j) (o := o) (by omega)
        have e4 := cO_no (l := preO l i p j) (o := o) (by omega)
        rw [← hgo] at e1 e2 e3 e4
        have hk4 : k4 (preO l i p (j + 1)) = .cons (i6 ((cK 1 (preO l i p j) : Nat) : Int)) (.cons (i6 ((cK 2 (preO l i p j) : Nat) : Int)) (.cons (i6 ((cK 3 (preO l i p j) + 1 : Nat) : Int)) (.cons (i6 ((cO (preO l i p j) : Nat) : Int)) .nil))) := by simp only [k4, e1, e2, e3, e4]
        refine wc_skip ?_
        refine seq_n ?_
        refine wc_seq ?_
        refine wc_block ?_
        refine sR ?_
        iterate 2 refine rC rfl ik0 ?_
        refine rQ rfl (index_arr tab_ok rfl rfl rfl rfl rfl (by omega) (by assumption)) ?_
        refine rQ rfl (load_i tab_ok rfl rfl) ?_
        refine rC rfl ik0 ?_
        refine rQ rfl (index_arr tab_ok rfl rfl rfl rfl rfl (by omega) (by assumption)) ?_
        refine rC rfl ik0 ?_
        refine rQ rfl (load_i tab_ok rfl rfl) ?_
        refine rQ rfl (conv_int (m := o.kind) tab_ok rfl rfl rfl hwk) ?_
        refine rQ rfl (sub_int (m := 2) tab_ok rfl rfl hw2) ?_
        refine rC rfl ik0 ?_
        refine nS ?_
        refine wc_seq ?_
        refine sR ?_
        iterate 3 refine rC rfl ik0 ?_
        refine reg_on rfl rfl rfl ?_
        refine rC rfl ik0 ?_
        refine reg_on rfl rfl rfl ?_
        refine rC rfl ik0 ?_
        refine rQ rfl (pick_F tab_ok rfl rfl rfl) ?_
        refine nS ?_
        refine wc_false rfl rfl ?_
        refine wc_skip ?_
        refine seq_n ?_
        refine wc_region ?_
        iterate 2 refine rC rfl ik0 ?_
        refine rQ rfl (step_C tab_ok (fun K hk => ⟨by omega, by omega, hk⟩)) ?_
        refine rQ rfl (load_box tab_ok rfl rfl ⟨_, rfl, rfl⟩ rfl) ?_
        refine rQ rfl (add_int tab_ok rfl rfl (wrap_i64 (by omega) (by omega))) ?_
        refine rQ rfl (step_C tab_ok (fun K hk => ⟨by omega, by omega, hk⟩)) ?_
        refine reg_store (store_row tab_ok rfl rfl rfl ⟨_, ⟨_, ⟨_, ⟨rfl, rfl, rfl⟩, rfl⟩, rfl⟩, rfl⟩ rfl) ?_
        refine reg_nil ?_
        refine blk_n ?_
        refine seq_n ?_
        refine wc_region ?_
        refine rC rfl ik0 ?_
        refine rQ rfl (add_int tab_ok rfl rfl (wrap_i64 (by omega) (by omega))) ?_
        refine rC rfl ik0 ?_
        refine reg_nil ?_
        exact loop_n (j + 1) [] hjl (by omega) (.of rfl rfl rfl rfl rfl ⟨⟨_, rfl, .refl _⟩, rfl, ⟨_, rfl, .refl _⟩, rfl, ⟨_, rfl, .refl _⟩, rfl, ⟨_, rfl, .refl _⟩, rfl, ⟨_, rfl, .refl _⟩, rfl, trivial⟩ ⟨⟨rfl, rfl, _, rfl, RowLe.of_eq (by rw [hk4]; rfl)⟩, ⟨rfl, rfl, _, rfl, .refl _⟩, trivial⟩)
      have hwx : IntKind.i64.wrap (o.kind - 1) = o.kind - 1 := wrap_i64 (by omega) (by omega)
      have e1 := cK_no (k := 1) (l := preO l i p j) (o := o) (by omega)
      have e2 := cK_no (k := 2) (l := preO l i p j) (o := o) (by omega)
      have e3 := cK_no (k := 3) (l := preO l i p j) (o := o) (by omega)
      have e4 := cO_yes (l := preO l i p j) (o := o) k1 k2 k3
      rw [← hgo] at e1 e2 e3 e4
      have hk4 : k4 (preO l i p (j + 1)) = .cons (i6 ((cK 1 (preO l i p j) : Nat) : Int)) (.cons (i6 ((cK 2 (preO l i p j) : Nat) : Int)) (.cons (i6 ((cK 3 (preO l i p j) : Nat) : Int)) (.cons (i6 ((cO (preO l i p j) + 1 : Nat) : Int)) .nil))) := by simp only [k4, e1, e2, e3, e4]
      by_cases k0 : o.kind = 0
      · have d1 : decide (o.kind - 1 < 0) = true := decide_eq_true (by omega)
        refine wc_skip ?_
        refine seq_n ?_
        refine wc_seq ?_
        refine wc_block ?_
        refine sR ?_
        iterate 2 refine rC rfl ik0 ?_
        refine rQ rfl (index_arr tab_ok rfl rfl rfl rfl rfl (by omega) (by assumption)) ?_
        refine rQ rfl (load_i tab_ok rfl rfl) ?_
        refine rC rfl ik0 ?_
        refine rQ rfl (index_arr tab_ok rfl rfl rfl rfl rfl (by omega) (by assumption)) ?_
        refine rC rfl ik0 ?_
        refine rQ rfl (load_i tab_ok rfl rfl) ?_
        refine rQ rfl (conv_int (m := o.kind) tab_ok rfl rfl rfl hwk) ?_
        refine rQ rfl (sub_int (m := o.kind - 1) tab_ok rfl rfl hwx) ?_
        refine rC rfl ik0 ?_
        refine nS ?_
        refine wc_seq ?_
        refine sR ?_
        iterate 3 refine rC rfl ik0 ?_
        iterate 2 refine reg_skip rfl rfl (by assumption) rfl rfl ?_
        refine rQ rfl (pick_T tab_ok rfl (by assumption) rfl) ?_
        refine nS ?_
        refine wc_true rfl rfl ?_
        refine wc_region ?_
        refine rC rfl ik0 ?_
        refine nS ?_
        refine wc_region ?_
        iterate 2 refine rC rfl ik0 ?_
        refine rQ rfl (step_C tab_ok (fun K hk => ⟨by omega, by omega, hk⟩)) ?_
        refine rQ rfl (load_box tab_ok rfl rfl ⟨_, rfl, rfl⟩ rfl) ?_
        refine rQ rfl (add_int tab_ok rfl rfl (wrap_i64 (by omega) (by omega))) ?_
        refine rQ rfl (step_C tab_ok (fun K hk => ⟨by omega, by omega, hk⟩)) ?_
        refine reg_store (store_row tab_ok rfl rfl rfl ⟨_, ⟨_, ⟨_, ⟨rfl, rfl, rfl⟩, rfl⟩, rfl⟩, rfl⟩ rfl) ?_
        refine reg_nil ?_
        refine blk_n ?_
        refine seq_n ?_
        refine wc_region ?_
        refine rC rfl ik0 ?_
        refine rQ rfl (add_int tab_ok rfl rfl (wrap_i64 (by omega) (by omega))) ?_
        refine rC rfl ik0 ?_
        refine reg_nil ?_
        exact loop_n (j + 1) [] hjl (by omega) (.of rfl rfl rfl rfl rfl ⟨⟨_, rfl, .refl _⟩, rfl, ⟨_, rfl, .refl _⟩, rfl, ⟨_, rfl, .refl _⟩, rfl, ⟨_, rfl, .refl _⟩, rfl, ⟨_, rfl, .refl _⟩, rfl, trivial⟩ ⟨⟨rfl, rfl, _, rfl, RowLe.of_eq (by rw [hk4]; rfl)⟩, ⟨rfl, rfl, _, rfl, .refl _⟩, trivial⟩)
      · have d1 : decide (o.kind - 1 < 0) = false := decide_eq_false (by omega)
        have d2 : decide (2 < o.kind - 1) = true := decide_eq_true (by omega)
        refine wc_skip ?_
        refine seq_n ?_
        refine wc_seq ?_
        refine wc_block ?_
        refine sR ?_
        iterate 2 refine rC rfl ik0 ?_
        refine rQ rfl (index_arr tab_ok rfl rfl rfl rfl rfl (by omega) (by assumption)) ?_
        refine rQ rfl (load_i tab_ok rfl rfl) ?_
        refine rC rfl ik0 ?_
        refine rQ rfl (index_arr tab_ok rfl rfl rfl rfl rfl (by omega) (by assumption)) ?_
        refine rC rfl ik0 ?_
        refine rQ rfl (load_i tab_ok rfl rfl) ?_
        refine rQ rfl (conv_int (m := o.kind) tab_ok rfl rfl rfl hwk) ?_
        refine rQ rfl (sub_int (m := o.kind - 1) tab_ok rfl rfl hwx) ?_
        refine rC rfl ik0 ?_
        refine nS ?_
        refine wc_seq ?_
        refine sR ?_
        iterate 3 refine rC rfl ik0 ?_
        refine reg_on rfl rfl (by assumption) ?_
        refine rC rfl ik0 ?_
        refine reg_on rfl rfl (by assumption) ?_
        refine rC rfl ik0 ?_
        refine rQ rfl (pick_F tab_ok rfl (by assumption) rfl) ?_
        refine nS ?_
        refine wc_true rfl (by assumption) ?_
        refine wc_region ?_
        refine rC rfl ik0 ?_
        refine nS ?_
        refine wc_region ?_
        iterate 2 refine rC rfl ik0 ?_
        refine rQ rfl (step_C tab_ok (fun K hk => ⟨by omega, by omega, hk⟩)) ?_
        refine rQ rfl (load_box tab_ok rfl rfl ⟨_, rfl, rfl⟩ rfl) ?_
        refine rQ rfl (add_int tab_ok rfl rfl (wrap_i64 (by omega) (by omega))) ?_
        refine rQ rfl (step_C tab_ok (fun K hk => ⟨by omega, by omega, hk⟩)) ?_
        refine reg_store (store_row tab_ok rfl rfl rfl ⟨_, ⟨_, ⟨_, ⟨rfl, rfl, rfl⟩, rfl⟩, rfl⟩, rfl⟩ rfl) ?_
        refine reg_nil ?_
        refine blk_n ?_
        refine seq_n ?_
        refine wc_region ?_
        refine rC rfl ik0 ?_
        refine rQ rfl (add_int tab_ok rfl rfl (wrap_i64 (by omega) (by omega))) ?_
        refine rC rfl ik0 ?_
        refine reg_nil ?_
        exact loop_n (j + 1) [] hjl (by omega) (.of rfl rfl rfl rfl rfl ⟨⟨_, rfl, .refl _⟩, rfl, ⟨_, rfl, .refl _⟩, rfl, ⟨_, rfl, .refl _⟩, rfl, ⟨_, rfl, .refl _⟩, rfl, ⟨_, rfl, .refl _⟩, rfl, trivial⟩ ⟨⟨rfl, rfl, _, rfl, RowLe.of_eq (by rw [hk4]; rfl)⟩, ⟨rfl, rfl, _, rfl, .refl _⟩, trivial⟩)
    · have he : j = p.length := by have := of_decide_eq_false h4; omega
      subst he
      refine wc_exit ?_
      refine seq_x ?_
      refine loop_x ?_
      refine blk_x ?_
      refine blk_n ?_
      refine seq_n ?_
      refine wc_region ?_
      refine rC rfl ik0 ?_
      refine rQ rfl (add_int tab_ok rfl rfl (wrap_i64 (by omega) (by omega))) ?_
      refine rC rfl ik0 ?_
      refine reg_nil ?_
      rw [preO_end hp]
      exact loop_n (i + 1) [] hlt (by omega) (.of rfl rfl rfl rfl rfl ⟨⟨_, rfl, .refl _⟩, rfl, ⟨_, rfl, .refl _⟩, rfl, ⟨_, rfl, .refl _⟩, rfl, ⟨_, rfl, .refl _⟩, rfl, trivial⟩ ⟨⟨rfl, rfl, _, rfl, .refl _⟩, ⟨rfl, rfl, _, rfl, .refl _⟩, trivial⟩)
  · have he : i = l.length := by have := of_decide_eq_false h3; omega
    subst he
    rw [List.take_length]
    refine wc_exit ?_
    refine seq_x ?_
    refine loop_x ?_
    refine blk_x ?_
    refine seq_n ?_
    refine sR ?_
    refine rQ rfl (load_box tab_ok rfl rfl rfl rfl) ?_
    refine reg_store (store_row tab_ok rfl rfl rfl ⟨_, ⟨rfl, rfl, rfl⟩, rfl⟩ rfl) ?_
    refine nS ?_
    refine wc_ret ?_
    exact ⟨trivial, _, rfl, [], .of rfl rfl rfl rfl rfl ⟨⟨_, rfl, AVLe.of_eq rfl⟩, rfl, trivial⟩ trivial⟩
end Go.Proofs.YtmojbghcngdkpaaGreatDoor

namespace Go.Proofs.YtmojbghcngdkpaaGreatDoor
open Go.Eng Go.Plain
set_option maxHeartbeats 4000000
set_option maxRecDepth 20000
attribute [local irreducible] WC RegS RegD SeqQ BlkQ ScoQ RegK CutK Sat SatN FnIs LoopQ StepIs OpIs
/-- One number looked at: what stands, and whether n stands. -/
def wStep (n : Int) (s : List Int × Bool) (x : Int) : List Int × Bool :=
  let t := if s.2 = false ∧ n ≤ x then (s.1 ++ [n], true) else s
  (if x = n then t.1 else t.1 ++ [x], t.2)
def wPre (n : Int) (l : List Int) : List Int × Bool := l.foldl (wStep n) ([], false)
def withL (l : List Int) (n : Int) : List Int := if (wPre n l).2 = true then (wPre n l).1 else (wPre n l).1 ++ [n]
theorem wPre_go {n x : Int} {l : List Int} {i : Nat} (h : l[i]? = some x) : wPre n (l.take (i + 1)) = wStep n (wPre n (l.take i)) x := by
  rw [wPre, List.take_add_one, h, List.foldl_append]
  rfl
theorem wStep_len (n x : Int) (s : List Int × Bool) : (wStep n s x).1.length ≤ s.1.length + 2 := by
  obtain ⟨o, d⟩ := s
  cases d <;> by_cases h1 : n ≤ x <;> by_cases h2 : x = n <;> simp [wStep, h1, h2]
theorem wPre_len (n : Int) (l : List Int) : (wPre n l).1.length ≤ 2 * l.length := by
  have key : ∀ (l : List Int) (s : List Int × Bool), (l.foldl (wStep n) s).1.length ≤ 2 * l.length + s.1.length := by
    intro l
    induction l with
    | nil => intro s; simp
    | cons x l ih =>
      intro s
      have h1 := ih (wStep n s x)
      have h2 := wStep_len n x s
      simp only [List.foldl_cons, List.length_cons]
      omega
  exact Nat.le_trans (key l ([], false)) (Nat.le_of_eq (by simp))
def bi (b : Bool) : Int := if b then 1 else 0
abbrev rowI (l : List Int) : Row := .ds 3 1 false i6 l
theorem with_own (l : List Int) (n : Int) (hl : l.length ≤ 100000) : FnIs Tryz.prog 90 [.d (.arr 1 i6 l), .int .i64 n] [] (.own 64 0 (withL l n).length 1 none) [(64, rowI (withL l n))] := by
  refine fnIs_of tab_ok Tryz.func90 rfl rfl rfl ?_
  refine sR ?_
  refine rC rfl ik0 ?_
  refine nR ?_
  refine rC rfl ik0 ?_
  refine nR ?_
  refine rC rfl ik0 ?_
  refine nS ?_
  refine wc_seq ?_
  refine sR ?_
  refine rC rfl ik0 ?_
  refine nS ?_
  refine wc_block ?_
  refine wc_inv (fun i : Nat => ⟨[(7, .int .i64 i), (6, .int .i64 (bi (wPre n (l.take i)).2)), (5, .own 65 0 (wPre n (l.take i)).1.length 1 none), (1, .int .i64 n), (0, .d (.arr 1 i6 l))], [(65, some (rowI (wPre n (l.take i)).1))], 72, Tryz.f90.ntmps, 64⟩) (fun i => i ≤ l.length) (fun i => l.length - i) 0 [(65, none)] (Nat.zero_le _)
    (.of rfl rfl rfl rfl rfl ⟨⟨_, rfl, .refl _⟩, rfl, ⟨_, rfl, .refl _⟩, rfl, ⟨_, rfl, .refl _⟩, rfl, ⟨_, rfl, .refl _⟩, rfl, ⟨_, rfl, .refl _⟩, rfl, trivial⟩ ⟨⟨rfl, rfl, rfl⟩, trivial⟩) ?_
  intro i hi
  refine wc_of ?_
  refine wc_seq ?_
  refine sR ?_
  iterate 2 refine rC rfl ik0 ?_
  refine rQ rfl (len_arr tab_ok rfl rfl) ?_
  refine rC rfl ik0 ?_
  refine nS ?_
  refine wc_cond rfl (fun h3 => ?_) (fun h3 => ?_)
  · have hlt : i < l.length := by have := of_decide_eq_true h3; omega
    obtain ⟨x, hx⟩ : ∃ x, l[i]? = some x := ⟨_, List.getElem?_eq_getElem hlt⟩
    have hx' : l[((i : Int)).toNat]? = some x := by rw [Int.toNat_natCast]; exact hx
    have hgo := wPre_go (n := n) hx
    have hln := wPre_len n (l.take i)
    rw [List.length_take] at hln
    have hA : (wPre n (l.take i)).1.length + 1 ≤ 1048576 := by omega
    generalize hw : wPre n (l.take i) = w at *
    obtain ⟨o1, d⟩ := w
    simp only at hA hln
    have hB : o1.length + 1 ≤ 1048576 := hA
    cases d with
    | true =>
      by_cases hxn : x = n
      · have hz : 0 = 0 := rfl
        have hq : (!decide (x = n)) = false := by rw [decide_eq_true hxn]; rfl
        have hs : wPre n (l.take (i + 1)) = (o1, true) := by rw [hgo]; simp [wStep, *]
        have hlq : (wPre n (l.take (i + 1))).1.length = o1.length := by rw [hs]; try simp
        refine wc_skip ?_
        refine seq_n ?_
        refine wc_seq ?_
        refine wc_block ?_
        refine wc_seq ?_
        refine sR ?_
        iterate 3 refine rC rfl ik0 ?_
        iterate 6 refine reg_skip rfl rfl rfl rfl rfl ?_
        refine rQ rfl (pick_F tab_ok rfl rfl rfl) ?_
        refine nS ?_
        refine wc_false rfl rfl ?_
        refine wc_skip ?_
        refine seq_n ?_
        refine sR ?_
        iterate 2 refine rC rfl ik0 ?_
        refine rQ rfl (index_arr tab_ok rfl rfl rfl rfl rfl (by omega) (by assumption)) ?_
        refine rQ rfl (load_i tab_ok rfl rfl) ?_
        iterate 2 refine rC rfl ik0 ?_
        refine nS ?_
        refine wc_false rfl (by assumption) ?_
        refine wc_skip ?_
        refine blk_n ?_
        refine seq_n ?_
        refine wc_region ?_
        refine rC rfl ik0 ?_
        refine rQ rfl (add_int tab_ok rfl rfl (wrap_i64 (by omega) (by omega))) ?_
        refine rC rfl ik0 ?_
        refine reg_nil ?_
        exact loop_n (i + 1) [] hlt (by omega) (.of rfl rfl rfl rfl rfl ⟨⟨_, rfl, .refl _⟩, rfl, ⟨_, rfl, AVLe.of_eq (by rw [hs]; rfl)⟩, rfl, ⟨_, rfl, AVLe.of_eq (by rw [hlq]; rfl)⟩, rfl, ⟨_, rfl, .refl _⟩, rfl, ⟨_, rfl, .refl _⟩, rfl, trivial⟩ ⟨⟨rfl, rfl, _, rfl, RowLe.of_eq (by rw [hs]; rfl)⟩, trivial⟩)
      · have hz : 0 = 0 := rfl
        have hq : (!decide (x = n)) = true := by rw [decide_eq_false hxn]; rfl
        have hs : wPre n (l.take (i + 1)) = (o1 ++ [x], true) := by rw [hgo]; simp [wStep, *]
        have hlq : (wPre n (l.take (i + 1))).1.length = o1.length + 1 := by rw [hs]; try simp
        refine wc_skip ?_
        refine seq_n ?_
        refine wc_seq ?_
        refine wc_block ?_
        refine wc_seq ?_
        refine sR ?_
        iterate 3 refine rC rfl ik0 ?_
        iterate 6 refine reg_skip rfl rfl rfl rfl rfl ?_
        refine rQ rfl (pick_F tab_ok rfl rfl rfl) ?_
        refine nS ?_
        refine wc_false rfl rfl ?_
        refine wc_skip ?_
        refine seq_n ?_
        refine sR ?_
        iterate 2 refine rC rfl ik0 ?_
        refine rQ rfl (index_arr tab_ok rfl rfl rfl rfl rfl (by omega) (by assumption)) ?_
        refine rQ rfl (load_i tab_ok rfl rfl) ?_
        iterate 2 refine rC rfl ik0 ?_
        refine nS ?_
        refine wc_true rfl (by assumption) ?_
        refine wc_region ?_
        iterate 3 refine rC rfl ik0 ?_
        refine rQ rfl (index_arr tab_ok rfl rfl rfl rfl rfl (by omega) (by assumption)) ?_
        refine rQ rfl (load_i tab_ok rfl rfl) ?_
        refine reg_new (build_slice (s := 1) tab_ok rfl rfl rfl rfl rfl rfl rfl rfl) rfl ?_
        refine reg_new2 (append_one (xs := o1) (s := 1) (enc := i6) tab_ok x rfl rfl rfl rfl rfl rfl rfl rfl rfl hB rfl) rfl ?_
        refine rC rfl ik0 ?_
        refine reg_nil ?_
        refine blk_n ?_
        refine seq_n ?_
        refine wc_region ?_
        refine rC rfl ik0 ?_
        refine rQ rfl (add_int tab_ok rfl rfl (wrap_i64 (by omega) (by omega))) ?_
        refine rC rfl ik0 ?_
        refine reg_nil ?_
        exact loop_n (i + 1) [(65, some 280)] hlt (by omega) (.of rfl rfl rfl rfl rfl ⟨⟨_, rfl, .refl _⟩, rfl, ⟨_, rfl, AVLe.of_eq (by rw [hs]; rfl)⟩, rfl, ⟨_, rfl, AVLe.of_eq (by rw [hlq]; rfl)⟩, rfl, ⟨_, rfl, .refl _⟩, rfl, ⟨_, rfl, .refl _⟩, rfl, trivial⟩ ⟨⟨rfl, rfl, _, rfl, RowLe.of_eq (by rw [hs]; rfl)⟩, trivial⟩)
    | false =>
      by_cases hnx : n ≤ x
      · by_cases hxn : x = n
        · have hz : 0 = 0 := rfl
          have hq : (!decide (x = n)) = false := by rw [decide_eq_true hxn]; rfl
          have hg : decide (n ≤ x) = true := decide_eq_true hnx
          have hs : wPre n (l.take (i + 1)) = (o1 ++ [n], true) := by rw [hgo]; simp [wStep, *]
          have hlq : (wPre n (l.take (i + 1))).1.length = o1.length + 1 := by rw [hs]; try simp
          refine wc_skip ?_
          refine seq_n ?_
          refine wc_seq ?_
          refine wc_block ?_
          refine wc_seq ?_
          refine sR ?_
          iterate 3 refine rC rfl ik0 ?_
          refine reg_on rfl rfl rfl ?_
          refine rC rfl ik0 ?_
          refine reg_on rfl rfl rfl ?_
          refine rC rfl ik0 ?_
          refine reg_on rfl rfl rfl ?_
          refine rQ rfl (index_arr tab_ok rfl rfl rfl rfl rfl (by omega) (by assumption)) ?_
          refine reg_on rfl rfl rfl ?_
          refine rQ rfl (load_i tab_ok rfl rfl) ?_
          refine reg_on rfl rfl rfl ?_
          refine rC rfl ik0 ?_
          refine reg_on rfl rfl rfl ?_
          refine rC rfl ik0 ?_
          refine rQ rfl (pick_T tab_ok rfl rfl rfl) ?_
          refine nS ?_
          refine wc_true rfl (by assumption) ?_
          refine sR ?_
          iterate 2 refine rC rfl ik0 ?_
          refine reg_new (build_slice (s := 1) tab_ok rfl rfl rfl rfl rfl rfl rfl rfl) rfl ?_
          refine reg_new2 (append_one (xs := o1) (s := 1) (enc := i6) tab_ok n rfl rfl rfl rfl rfl rfl rfl rfl rfl hA rfl) rfl ?_
          refine rC rfl ik0 ?_
          refine nS ?_
          refine wc_region ?_
          refine rC rfl ik0 ?_
          refine nR ?_
          iterate 2 refine rC rfl ik0 ?_
          refine rQ rfl (index_arr tab_ok rfl rfl rfl rfl rfl (by omega) (by assumption)) ?_
          refine rQ rfl (load_i tab_ok rfl rfl) ?_
          iterate 2 refine rC rfl ik0 ?_
          refine nS ?_
          refine wc_false rfl (by assumption) ?_
          refine wc_skip ?_
          refine blk_n ?_
          refine seq_n ?_
          refine wc_region ?_
          refine rC rfl ik0 ?_
          refine rQ rfl (add_int tab_ok rfl rfl (wrap_i64 (by omega) (by omega))) ?_
          refine rC rfl ik0 ?_
          refine reg_nil ?_
          exact loop_n (i + 1) [(65, some 208)] hlt (by omega) (.of rfl rfl rfl rfl rfl ⟨⟨_, rfl, .refl _⟩, rfl, ⟨_, rfl, AVLe.of_eq (by rw [hs]; rfl)⟩, rfl, ⟨_, rfl, AVLe.of_eq (by rw [hlq]; rfl)⟩, rfl, ⟨_, rfl, .refl _⟩, rfl, ⟨_, rfl, .refl _⟩, rfl, trivial⟩ ⟨⟨rfl, rfl, _, rfl, RowLe.of_eq (by rw [hs]; rfl)⟩, trivial⟩)
        · have hz : 0 = 0 := rfl
          have hq : (!decide (x = n)) = true := by rw [decide_eq_false hxn]; rfl
          have hg : decide (n ≤ x) = true := decide_eq_true hnx
          have hL2 : o1.length + 1 = (o1 ++ [n]).length := by simp
          have hB3 : (o1 ++ [n]).length + [x].length ≤ 1048576 := by simp; omega
          have hs : wPre n (l.take (i + 1)) = (o1 ++ [n] ++ [x], true) := by rw [hgo]; simp [wStep, *]
          have hlq : (wPre n (l.take (i + 1))).1.length = (o1 ++ [n]).length + [x].length := by rw [hs]; try simp
          refine wc_skip ?_
          refine seq_n ?_
          refine wc_seq ?_
          refine wc_block ?_
          refine wc_seq ?_
          refine sR ?_
          iterate 3 refine rC rfl ik0 ?_
          refine reg_on rfl rfl rfl ?_
          refine rC rfl ik0 ?_
          refine reg_on rfl rfl rfl ?_
          refine rC rfl ik0 ?_
          refine reg_on rfl rfl rfl ?_
          refine rQ rfl (index_arr tab_ok rfl rfl rfl rfl rfl (by omega) (by assumption)) ?_
          refine reg_on rfl rfl rfl ?_
          refine rQ rfl (load_i tab_ok rfl rfl) ?_
          refine reg_on rfl rfl rfl ?_
          refine rC rfl ik0 ?_
          refine reg_on rfl rfl rfl ?_
          refine rC rfl ik0 ?_
          refine rQ rfl (pick_T tab_ok rfl rfl rfl) ?_
          refine nS ?_
          refine wc_true rfl (by assumption) ?_
          refine sR ?_
          iterate 2 refine rC rfl ik0 ?_
          refine reg_new (build_slice (s := 1) tab_ok rfl rfl rfl rfl rfl rfl rfl rfl) rfl ?_
          refine reg_new2 (append_one (xs := o1) (s := 1) (enc := i6) tab_ok n rfl rfl rfl rfl rfl rfl rfl rfl rfl hA rfl) rfl ?_
          refine rC rfl ik0 ?_
          refine nS ?_
          refine wc_region ?_
          refine rC rfl ik0 ?_
          refine nR ?_
          iterate 2 refine rC rfl ik0 ?_
          refine rQ rfl (index_arr tab_ok rfl rfl rfl rfl rfl (by omega) (by assumption)) ?_
          refine rQ rfl (load_i tab_ok rfl rfl) ?_
          iterate 2 refine rC rfl ik0 ?_
          refine nS ?_
          refine wc_true rfl (by assumption) ?_
          refine wc_region ?_
          iterate 3 refine rC rfl ik0 ?_
          refine rQ rfl (index_arr tab_ok rfl rfl rfl rfl rfl (by omega) (by assumption)) ?_
          refine rQ rfl (load_i tab_ok rfl rfl) ?_
          refine reg_new (build_slice (s := 1) tab_ok rfl rfl rfl rfl rfl rfl rfl rfl) rfl ?_
          refine reg_new2 (append_litsL (α := Int) (s := 1) (enc := i6) (xs := o1 ++ [n]) tab_ok [x] rfl rfl rfl rfl rfl hL2 rfl rfl rfl rfl (fun _ _ => rfl) (by decide) hB3 rfl) rfl ?_
          refine rC rfl ik0 ?_
          refine reg_nil ?_
          refine blk_n ?_
          refine seq_n ?_
          refine wc_region ?_
          refine rC rfl ik0 ?_
          refine rQ rfl (add_int tab_ok rfl rfl (wrap_i64 (by omega) (by omega))) ?_
          refine rC rfl ik0 ?_
          refine reg_nil ?_
          exact loop_n (i + 1) [(65, some 328)] hlt (by omega) (.of rfl rfl rfl rfl rfl ⟨⟨_, rfl, .refl _⟩, rfl, ⟨_, rfl, AVLe.of_eq (by rw [hs]; rfl)⟩, rfl, ⟨_, rfl, AVLe.of_eq (by rw [hlq]; rfl)⟩, rfl, ⟨_, rfl, .refl _⟩, rfl, ⟨_, rfl, .refl _⟩, rfl, trivial⟩ ⟨⟨rfl, rfl, _, rfl, RowLe.of_eq (by rw [hs]; rfl)⟩, trivial⟩)
      · by_cases hxn : x = n
        · exact absurd (by omega) hnx
        · have hz : 0 = 0 := rfl
          have hq : (!decide (x = n)) = true := by rw [decide_eq_false hxn]; rfl
          have hg : decide (n ≤ x) = false := decide_eq_false hnx
          have hs : wPre n (l.take (i + 1)) = (o1 ++ [x], false) := by rw [hgo]; simp [wStep, *]
          have hlq : (wPre n (l.take (i + 1))).1.length = o1.length + 1 := by rw [hs]; try simp
          refine wc_skip ?_
          refine seq_n ?_
          refine wc_seq ?_
          refine wc_block ?_
          refine wc_seq ?_
          refine sR ?_
          iterate 3 refine rC rfl ik0 ?_
          refine reg_on rfl rfl rfl ?_
          refine rC rfl ik0 ?_
          refine reg_on rfl rfl rfl ?_
          refine rC rfl ik0 ?_
          refine reg_on rfl rfl rfl ?_
          refine rQ rfl (index_arr tab_ok rfl rfl rfl rfl rfl (by omega) (by assumption)) ?_
          refine reg_on rfl rfl rfl ?_
          refine rQ rfl (load_i tab_ok rfl rfl) ?_
          refine reg_on rfl rfl rfl ?_
          refine rC rfl ik0 ?_
          refine reg_on rfl rfl rfl ?_
          refine rC rfl ik0 ?_
          refine rQ rfl (pick_T tab_ok rfl rfl rfl) ?_
          refine nS ?_
          refine wc_false rfl (by assumption) ?_
          refine wc_skip ?_
          refine seq_n ?_
          refine sR ?_
          iterate 2 refine rC rfl ik0 ?_
          refine rQ rfl (index_arr tab_ok rfl rfl rfl rfl rfl (by omega) (by assumption)) ?_
          refine rQ rfl (load_i tab_ok rfl rfl) ?_
          iterate 2 refine rC rfl ik0 ?_
          refine nS ?_
          refine wc_true rfl (by assumption) ?_
          refine wc_region ?_
          iterate 3 refine rC rfl ik0 ?_
          refine rQ rfl (index_arr tab_ok rfl rfl rfl rfl rfl (by omega) (by assumption)) ?_
          refine rQ rfl (load_i tab_ok rfl rfl) ?_
          refine reg_new (build_slice (s := 1) tab_ok rfl rfl rfl rfl rfl rfl rfl rfl) rfl ?_
          refine reg_new2 (append_one (xs := o1) (s := 1) (enc := i6) tab_ok x rfl rfl rfl rfl rfl rfl rfl rfl rfl hB rfl) rfl ?_
          refine rC rfl ik0 ?_
          refine reg_nil ?_
          refine blk_n ?_
          refine seq_n ?_
          refine wc_region ?_
          refine rC rfl ik0 ?_
          refine rQ rfl (add_int tab_ok rfl rfl (wrap_i64 (by omega) (by omega))) ?_
          refine rC rfl ik0 ?_
          refine reg_nil ?_
          exact loop_n (i + 1) [(65, some 280)] hlt (by omega) (.of rfl rfl rfl rfl rfl ⟨⟨_, rfl, .refl _⟩, rfl, ⟨_, rfl, AVLe.of_eq (by rw [hs]; rfl)⟩, rfl, ⟨_, rfl, AVLe.of_eq (by rw [hlq]; rfl)⟩, rfl, ⟨_, rfl, .refl _⟩, rfl, ⟨_, rfl, .refl _⟩, rfl, trivial⟩ ⟨⟨rfl, rfl, _, rfl, RowLe.of_eq (by rw [hs]; rfl)⟩, trivial⟩)
  · have he : i = l.length := by have := of_decide_eq_false h3; omega
    subst he
    rw [List.take_length]
    have hln := wPre_len n l
    have hwl : withL l n = if (wPre n l).2 = true then (wPre n l).1 else (wPre n l).1 ++ [n] := rfl
    generalize hw : wPre n l = w at *
    obtain ⟨o1, d⟩ := w
    simp only at hln
    have hA : o1.length + 1 ≤ 1048576 := by omega
    cases d with
    | true =>
      rw [hwl]
      refine wc_exit ?_
      refine seq_x ?_
      refine loop_x ?_
      refine blk_x ?_
      refine seq_n ?_
      refine wc_seq ?_
      refine sR ?_
      iterate 2 refine rC rfl ik0 ?_
      refine nS ?_
      refine wc_false rfl rfl ?_
      refine wc_skip ?_
      refine seq_n ?_
      refine sR ?_
      iterate 2 refine rC rfl ik0 ?_
      refine nS ?_
      refine wc_ret ?_
      exact ⟨trivial, [(64, some 65)], .of rfl rfl rfl rfl rfl ⟨⟨_, rfl, AVLe.of_eq rfl⟩, rfl, trivial⟩ ⟨⟨rfl, rfl, _, rfl, .refl _⟩, trivial⟩⟩
    | false =>
      rw [hwl]
      have hz : (o1 ++ [n]).length = o1.length + 1 := by simp
      refine wc_exit ?_
      refine seq_x ?_
      refine loop_x ?_
      refine blk_x ?_
      refine seq_n ?_
      refine wc_seq ?_
      refine sR ?_
      iterate 2 refine rC rfl ik0 ?_
      refine nS ?_
      refine wc_true rfl rfl ?_
      refine wc_region ?_
      iterate 2 refine rC rfl ik0 ?_
      refine reg_new (build_slice (s := 1) tab_ok rfl rfl rfl rfl rfl rfl rfl rfl) rfl ?_
      refine reg_new2 (append_one (xs := o1) (s := 1) (enc := i6) tab_ok n rfl rfl rfl rfl rfl rfl rfl rfl rfl hA rfl) rfl ?_
      refine rC rfl ik0 ?_
      refine nR ?_
      iterate 2 refine rC rfl ik0 ?_
      refine nS ?_
      refine wc_ret ?_
      exact ⟨trivial, [(64, some 144)], .of rfl rfl rfl rfl rfl ⟨⟨_, rfl, AVLe.of_eq (by simp only [Bool.false_eq_true, if_false, hz]; rfl)⟩, rfl, trivial⟩ ⟨⟨rfl, rfl, _, rfl, .refl _⟩, trivial⟩⟩
theorem with_is (l : List Int) (n : Int) (hl : l.length ≤ 100000) : FnIs Tryz.prog 90 [.d (.arr 1 i6 l), .int .i64 n] [] (.d (.arr 1 i6 (withL l n))) [] :=
  (with_own l n hl).freeze_out 64 _ rfl (Frz.own rfl) trivial
end Go.Proofs.YtmojbghcngdkpaaGreatDoor

namespace Go.Proofs.YtmojbghcngdkpaaGreatDoor
open Go.Eng Go.Plain
def uB : Bool → Nat
  | true => 0
  | false => 1
theorem wStep_le (n x : Int) (s : List Int × Bool) : (wStep n s x).1.length + uB (wStep n s x).2 ≤ s.1.length + uB s.2 + 1 := by
  obtain ⟨o, d⟩ := s
  cases d <;> by_cases h1 : n ≤ x <;> by_cases h2 : x = n <;> simp [wStep, h1, h2, uB]
theorem wPre_le (n : Int) (l : List Int) : (wPre n l).1.length + uB (wPre n l).2 ≤ l.length + 1 := by
  have key : ∀ (l : List Int) (s : List Int × Bool), (l.foldl (wStep n) s).1.length + uB (l.foldl (wStep n) s).2 ≤ l.length + (s.1.length + uB s.2) := by
    intro l
    induction l with
    | nil => intro s; simp
    | cons x l ih =>
      intro s
      have h1 := ih (wStep n s x)
      have h2 := wStep_le n x s
      simp only [List.foldl_cons, List.length_cons]
      omega
  exact Nat.le_trans (key l ([], false)) (Nat.le_of_eq (by simp [uB]))
theorem withL_le (l : List Int) (n : Int) : (withL l n).length ≤ l.length + 1 := by
  have := wPre_le n l
  rw [withL]
  split
  · omega
  · rename_i h
    have hd : (wPre n l).2 = false := by simpa using h
    rw [hd] at this
    simp only [uB] at this
    simp only [List.length_append, List.length_cons, List.length_nil]
    omega
/-- Whether an operation touches a block. -/
def touB (b : Int) (o : POp) : Bool := !decide (o.kind = 3) && !badO o b
def touS (b : Int) (acc : List Int) (o : POp) : List Int := if touB b o = true then withL acc o.index else acc
def touL (b : Int) (l : List POp) : List Int := l.foldl (touS b) []
theorem touL_snoc (b : Int) (l : List POp) (o : POp) : touL b (l ++ [o]) = touS b (touL b l) o := by simp [touL]
theorem touL_len (b : Int) (l : List POp) : (touL b l).length ≤ l.length := by
  have key : ∀ (l : List POp) (a : List Int), (l.foldl (touS b) a).length ≤ a.length + l.length := by
    intro l
    induction l with
    | nil => intro a; simp
    | cons o l ih =>
      intro a
      have h1 := ih (touS b a o)
      have h2 : (touS b a o).length ≤ a.length + 1 := by
        rw [touS]
        split
        · exact withL_le _ _
        · omega
      simp only [List.foldl_cons, List.length_cons]
      omega
  have := key l []
  rw [touL]
  simpa using this
end Go.Proofs.YtmojbghcngdkpaaGreatDoor

namespace Go.Proofs.YtmojbghcngdkpaaGreatDoor
open Go.Eng Go.Plain
set_option maxHeartbeats 4000000
set_option maxRecDepth 20000
attribute [local irreducible] WC RegS RegD SeqQ BlkQ ScoQ RegK CutK Sat SatN FnIs LoopQ StepIs OpIs
theorem rtouched_is (l : List (List POp)) (b : Int) (hL : l.length ≤ 100000) (hF : l.flatten.length ≤ 100000) : FnIs Tryz.prog 44 [.d (encPL l), .int .i64 b] [] (.d (.arr 1 i6 (touL b l.flatten))) [] := by
  refine fnIs_of tab_ok Tryz.func44 rfl rfl rfl ?_
  refine sR ?_
  refine rC rfl ik0 ?_
  refine nR ?_
  refine rC rfl ik0 ?_
  refine nS ?_
  refine wc_seq ?_
  refine sR ?_
  refine rC rfl ik0 ?_
  refine nS ?_
  refine wc_block ?_
  refine wc_inv (fun i : Nat => ⟨[(6, .int .i64 i), (5, .d (.arr 1 i6 (touL b (l.take i).flatten))), (1, .int .i64 b), (0, .d (encPL l))], [], 72, Tryz.f44.ntmps, 64⟩) (fun i => i ≤ l.length) (fun i => l.length - i) 0 [] (Nat.zero_le _)
    (.of rfl rfl rfl rfl rfl ⟨⟨_, rfl, .refl _⟩, rfl, ⟨_, rfl, nil_arr _ _⟩, rfl, ⟨_, rfl, .refl _⟩, rfl, ⟨_, rfl, .refl _⟩, rfl, trivial⟩ trivial) ?_
  intro i hi
  refine wc_of ?_
  refine wc_seq ?_
  refine sR ?_
  iterate 2 refine rC rfl ik0 ?_
  refine rQ rfl (len_arr tab_ok rfl rfl) ?_
  refine rC rfl ik0 ?_
  refine nS ?_
  refine wc_cond rfl (fun h3 => ?_) (fun h3 => ?_)
  · have hlt : i < l.length := by have := of_decide_eq_true h3; omega
    obtain ⟨p, hp⟩ : ∃ p, l[i]? = some p := ⟨_, List.getElem?_eq_getElem hlt⟩
    have hp' : l[((i : Int)).toNat]? = some p := by rw [Int.toNat_natCast]; exact hp
    have hfm := flat_mem_le hp
    rw [← preO_zero l i p]
    refine wc_skip ?_
    refine seq_n ?_
    refine wc_seq ?_
    refine wc_block ?_
    refine sR ?_
    refine rC rfl ik0 ?_
    refine nS ?_
    refine wc_block ?_
    refine wc_inv (fun j : Nat => ⟨[(7, .int .i64 j), (6, .int .i64 i), (5, .d (.arr 1 i6 (touL b (preO l i p j)))), (1, .int .i64 b), (0, .d (encPL l))], [], 72, Tryz.f44.ntmps, 64⟩) (fun j => j ≤ p.length) (fun j => p.length - j) 0 [] (Nat.zero_le _)
      (.of rfl rfl rfl rfl rfl ⟨⟨_, rfl, .refl _⟩, rfl, ⟨_, rfl, .refl _⟩, rfl, ⟨_, rfl, .refl _⟩, rfl, ⟨_, rfl, .refl _⟩, rfl, ⟨_, rfl, .refl _⟩, rfl, trivial⟩ trivial) ?_
    intro j hj
    refine wc_of ?_
    refine wc_seq ?_
    refine sR ?_
    iterate 3 refine rC rfl ik0 ?_
    refine rQ rfl (index_arr tab_ok rfl rfl rfl rfl rfl (by omega) (by assumption)) ?_
    refine rQ rfl (load_i tab_ok rfl rfl) ?_
    refine rQ rfl (len_arr tab_ok rfl rfl) ?_
    refine rC rfl ik0 ?_
    refine nS ?_
    refine wc_cond rfl (fun h4 => ?_) (fun h4 => ?_)
    · have hjl : j < p.length := by have := of_decide_eq_true h4; omega
      obtain ⟨o, ho⟩ : ∃ o, p[j]? = some o := ⟨_, List.getElem?_eq_getElem hjl⟩
      have ho' : p[((j : Int)).toNat]? = some o := by rw [Int.toNat_natCast]; exact ho
      have hgo := preO_go (l := l) (i := i) ho
      have hle := preO_le (j := j) hp
      have htl := touL_len b (preO l i p j)
      have hwith := with_is (touL b (preO l i p j)) o.index (by omega)
      have hstep : touL b (preO l i p (j + 1)) = touS b (touL b (preO l i p j)) o := by rw [hgo, touL_snoc]
      by_cases k3 : o.kind = 3
      · have hk : (!decide (o.kind = 3)) = false := by rw [decide_eq_true k3]; rfl
        have hs : touL b (preO l i p (j + 1)) = touL b (preO l i p j) := by rw [hstep, touS, touB, hk]; rfl
        refine wc_skip ?_
        refine seq_n ?_
        refine wc_seq ?_
        refine wc_block ?_
        refine sR ?_
        iterate 2 refine rC rfl ik0 ?_
        refine rQ rfl (index_arr tab_ok rfl rfl rfl rfl rfl (by omega) (by assumption)) ?_
        refine rQ rfl (load_i tab_ok rfl rfl) ?_
        refine rC rfl ik0 ?_
        refine rQ rfl (index_arr tab_ok rfl rfl rfl rfl rfl (by omega) (by assumption)) ?_
        refine rC rfl ik0 ?_
        refine rQ rfl (load_i tab_ok rfl rfl) ?_
        iterate 2 refine rC rfl ik0 ?_
        iterate 10 refine reg_skip rfl rfl (by assumption) rfl rfl ?_
        refine rQ rfl (pick_F tab_ok rfl (by assumption) rfl) ?_
        refine nS ?_
        refine wc_false rfl rfl ?_
        refine wc_skip ?_
        refine blk_n ?_
        refine seq_n ?_
        refine wc_region ?_
        refine rC rfl ik0 ?_
        refine rQ rfl (add_int tab_ok rfl rfl (wrap_i64 (by omega) (by omega))) ?_
        refine rC rfl ik0 ?_
        refine reg_nil ?_
        exact loop_n (j + 1) [] hjl (by omega) (.of rfl rfl rfl rfl rfl ⟨⟨_, rfl, .refl _⟩, rfl, ⟨_, rfl, .refl _⟩, rfl, ⟨_, rfl, AVLe.of_eq (by rw [hs]; rfl)⟩, rfl, ⟨_, rfl, .refl _⟩, rfl, ⟨_, rfl, .refl _⟩, rfl, trivial⟩ trivial)
      have hk : (!decide (o.kind = 3)) = true := by rw [decide_eq_false k3]; rfl
      cases hb : badO o b with
      | true =>
        have hbad := rbad_is o b
        rw [hb] at hbad
        have hs : touL b (preO l i p (j + 1)) = touL b (preO l i p j) := by rw [hstep, touS, touB, hk, hb]; rfl
        refine wc_skip ?_
        refine seq_n ?_
        refine wc_seq ?_
        refine wc_block ?_
        refine sR ?_
        iterate 2 refine rC rfl ik0 ?_
        refine rQ rfl (index_arr tab_ok rfl rfl rfl rfl rfl (by omega) (by assumption)) ?_
        refine rQ rfl (load_i tab_ok rfl rfl) ?_
        refine rC rfl ik0 ?_
        refine rQ rfl (index_arr tab_ok rfl rfl rfl rfl rfl (by omega) (by assumption)) ?_
        refine rC rfl ik0 ?_
        refine rQ rfl (load_i tab_ok rfl rfl) ?_
        iterate 2 refine rC rfl ik0 ?_
        refine reg_on rfl rfl (by assumption) ?_
        refine rC rfl ik0 ?_
        refine reg_on rfl rfl (by assumption) ?_
        refine rC rfl ik0 ?_
        refine reg_on rfl rfl (by assumption) ?_
        refine rQ rfl (index_arr tab_ok rfl rfl rfl rfl rfl (by omega) (by assumption)) ?_
        refine reg_on rfl rfl (by assumption) ?_
        refine rQ rfl (load_i tab_ok rfl rfl) ?_
        refine reg_on rfl rfl (by assumption) ?_
        refine rC rfl ik0 ?_
        refine reg_on rfl rfl (by assumption) ?_
        refine rQ rfl (index_arr tab_ok rfl rfl rfl rfl rfl (by omega) (by assumption)) ?_
        refine reg_on rfl rfl (by assumption) ?_
        refine rQ rfl (load_i tab_ok rfl rfl) ?_
        refine reg_on rfl rfl (by assumption) ?_
        refine rC rfl ik0 ?_
        refine reg_on rfl rfl (by assumption) ?_
        refine rQ rfl (call_r hbad rfl rfl (arg_e (arg_e arg_nil)) (.inl rfl) (fun _ => rfl)) ?_
        refine reg_on rfl rfl (by assumption) ?_
        refine rC rfl ik0 ?_
        refine rQ rfl (pick_T tab_ok rfl (by assumption) rfl) ?_
        refine nS ?_
        refine wc_false rfl rfl ?_
        refine wc_skip ?_
        refine blk_n ?_
        refine seq_n ?_
        refine wc_region ?_
        refine rC rfl ik0 ?_
        refine rQ rfl (add_int tab_ok rfl rfl (wrap_i64 (by omega) (by omega))) ?_
        refine rC rfl ik0 ?_
        refine reg_nil ?_
        exact loop_n (j + 1) [] hjl (by omega) (.of rfl rfl rfl rfl rfl ⟨⟨_, rfl, .refl _⟩, rfl, ⟨_, rfl, .refl _⟩, rfl, ⟨_, rfl, AVLe.of_eq (by rw [hs]; rfl)⟩, rfl, ⟨_, rfl, .refl _⟩, rfl, ⟨_, rfl, .refl _⟩, rfl, trivial⟩ trivial)
      | false =>
        have hbad := rbad_is o b
        rw [hb] at hbad
        have hs : touL b (preO l i p (j + 1)) = withL (touL b (preO l i p j)) o.index := by rw [hstep, touS, touB, hk, hb]; rfl
        refine wc_skip ?_
        refine seq_n ?_
        refine wc_seq ?_
        refine wc_block ?_
        refine sR ?_
        iterate 2 refine rC rfl ik0 ?_
        refine rQ rfl (index_arr tab_ok rfl rfl rfl rfl rfl (by omega) (by assumption)) ?_
        refine rQ rfl (load_i tab_ok rfl rfl) ?_
        refine rC rfl ik0 ?_
        refine rQ rfl (index_arr tab_ok rfl rfl rfl rfl rfl (by omega) (by assumption)) ?_
        refine rC rfl ik0 ?_
        refine rQ rfl (load_i tab_ok rfl rfl) ?_
        iterate 2 refine rC rfl ik0 ?_
        refine reg_on rfl rfl (by assumption) ?_
        refine rC rfl ik0 ?_
        refine reg_on rfl rfl (by assumption) ?_
        refine rC rfl ik0 ?_
        refine reg_on rfl rfl (by assumption) ?_
        refine rQ rfl (index_arr tab_ok rfl rfl rfl rfl rfl (by omega) (by assumption)) ?_
        refine reg_on rfl rfl (by assumption) ?_
        refine rQ rfl (load_i tab_ok rfl rfl) ?_
        refine reg_on rfl rfl (by assumption) ?_
        refine rC rfl ik0 ?_
        refine reg_on rfl rfl (by assumption) ?_
        refine rQ rfl (index_arr tab_ok rfl rfl rfl rfl rfl (by omega) (by assumption)) ?_
        refine reg_on rfl rfl (by assumption) ?_
        refine rQ rfl (load_i tab_ok rfl rfl) ?_
        refine reg_on rfl rfl (by assumption) ?_
        refine rC rfl ik0 ?_
        refine reg_on rfl rfl (by assumption) ?_
        refine rQ rfl (call_r hbad rfl rfl (arg_e (arg_e arg_nil)) (.inl rfl) (fun _ => rfl)) ?_
        refine reg_on rfl rfl (by assumption) ?_
        refine rC rfl ik0 ?_
        refine rQ rfl (pick_T tab_ok rfl (by assumption) rfl) ?_
        refine nS ?_
        refine wc_true rfl rfl ?_
        refine wc_region ?_
        iterate 3 refine rC rfl ik0 ?_
        refine rQ rfl (index_arr tab_ok rfl rfl rfl rfl rfl (by omega) (by assumption)) ?_
        refine rQ rfl (load_i tab_ok rfl rfl) ?_
        refine rC rfl ik0 ?_
        refine rQ rfl (index_arr tab_ok rfl rfl rfl rfl rfl (by omega) (by assumption)) ?_
        refine rC rfl ik0 ?_
        refine rQ rfl (load_i tab_ok rfl rfl) ?_
        refine rQ rfl (call_r hwith rfl rfl (arg_e (arg_e arg_nil)) (.inl rfl) (fun _ => rfl)) ?_
        refine rC rfl ik0 ?_
        refine reg_nil ?_
        refine blk_n ?_
        refine seq_n ?_
        refine wc_region ?_
        refine rC rfl ik0 ?_
        refine rQ rfl (add_int tab_ok rfl rfl (wrap_i64 (by omega) (by omega))) ?_
        refine rC rfl ik0 ?_
        refine reg_nil ?_
        exact loop_n (j + 1) [] hjl (by omega) (.of rfl rfl rfl rfl rfl ⟨⟨_, rfl, .refl _⟩, rfl, ⟨_, rfl, .refl _⟩, rfl, ⟨_, rfl, AVLe.of_eq (by rw [hs]; rfl)⟩, rfl, ⟨_, rfl, .refl _⟩, rfl, ⟨_, rfl, .refl _⟩, rfl, trivial⟩ trivial)
    · have he : j = p.length := by have := of_decide_eq_false h4; omega
      subst he
      refine wc_exit ?_
      refine seq_x ?_
      refine loop_x ?_
      refine blk_x ?_
      refine blk_n ?_
      refine seq_n ?_
      refine wc_region ?_
      refine rC rfl ik0 ?_
      refine rQ rfl (add_int tab_ok rfl rfl (wrap_i64 (by omega) (by omega))) ?_
      refine rC rfl ik0 ?_
      refine reg_nil ?_
      rw [preO_end hp]
      exact loop_n (i + 1) [] hlt (by omega) (.of rfl rfl rfl rfl rfl ⟨⟨_, rfl, .refl _⟩, rfl, ⟨_, rfl, .refl _⟩, rfl, ⟨_, rfl, .refl _⟩, rfl, ⟨_, rfl, .refl _⟩, rfl, trivial⟩ trivial)
  · have he : i = l.length := by have := of_decide_eq_false h3; omega
    subst he
    rw [List.take_length]
    refine wc_exit ?_
    refine seq_x ?_
    refine loop_x ?_
    refine blk_x ?_
    refine seq_n ?_
    refine sR ?_
    iterate 2 refine rC rfl ik0 ?_
    refine nS ?_
    refine wc_ret ?_
    exact ⟨trivial, [], .of rfl rfl rfl rfl rfl ⟨⟨_, rfl, AVLe.of_eq rfl⟩, rfl, trivial⟩ trivial⟩
end Go.Proofs.YtmojbghcngdkpaaGreatDoor

namespace Go.Proofs.YtmojbghcngdkpaaGreatDoor
open Go.Eng Go.Plain
set_option maxHeartbeats 4000000
set_option maxRecDepth 20000
attribute [local irreducible] WC RegS RegD SeqQ BlkQ ScoQ RegK CutK Sat SatN FnIs LoopQ StepIs OpIs
end Go.Proofs.YtmojbghcngdkpaaGreatDoor

namespace Go.Eng
open Go.RowKit
end Go.Eng

namespace Go.Proofs.YtmojbghcngdkpaaGreatDoor
open Go.Eng Go.Plain
set_option maxHeartbeats 4000000
set_option maxRecDepth 20000
attribute [local irreducible] WC RegS RegD SeqQ BlkQ ScoQ RegK CutK Sat SatN FnIs LoopQ StepIs OpIs
def decD : List UInt8 := [48, 49, 50, 51, 52, 53, 54, 55, 56, 57]
theorem decD_cut {d : Nat} (h : d < 10) : (decD.drop d).take (d + 1 - d) = [UInt8.ofNat (48 + d)] := by
  have : ∀ d, d < 10 → (decD.drop d).take (d + 1 - d) = [UInt8.ofNat (48 + d)] := by decide
  exact this d h
theorem numN_is : ∀ (u : Nat), u ≤ 9223372036854775807 → FnIs Tryz.prog 51 [.int .i64 u] [] (.d (strD (Lib.decDigits u))) [] := by
  intro u
  induction u using Nat.strongRecOn with
  | ind u ih =>
    intro hu
    have hmin : decide ((u : Int) = -9223372036854775808) = false := decide_eq_false (by omega)
    have hneg : decide ((u : Int) < 0) = false := decide_eq_false (by omega)
    have hw1 : IntKind.i64.wrap (((u % 10 : Nat) : Int) + 1) = ((u % 10 + 1 : Nat) : Int) := by rw [wrap_i64 (by omega) (by omega)]; rfl
    have hle : u % 10 + 1 ≤ decD.length := by show u % 10 + 1 ≤ 10; omega
    have hcut := decD_cut (d := u % 10) (by omega)
    refine fnIs_of tab_ok Tryz.func51 rfl rfl rfl ?_
    by_cases h9 : 9 < u
    · have hd : decide (9 < (u : Int)) = true := decide_eq_true (by omega)
      have hrec := ih (u / 10) (by omega) (by omega)
      have hw2 : IntKind.i64.wrap ((u / 10 : Nat) : Int) = ((u / 10 : Nat) : Int) := wrap_i64 (by omega) (by omega)
      have hlen : (Lib.decDigits (u / 10)).length + [UInt8.ofNat (48 + u % 10)].length ≤ 9223372036854775807 := by
        have := dec_len (u := u / 10) (by omega)
        simp; omega
      rw [show Lib.decDigits u = Lib.decDigits (u / 10) ++ [UInt8.ofNat (48 + u % 10)] by rw [Lib.decDigits, dif_neg (by omega)]]
      refine sR ?_
      refine rC rfl ik0 ?_
      refine nS ?_
      refine wc_seq ?_
      refine sR ?_
      iterate 2 refine rC rfl ik0 ?_
      refine nS ?_
      refine wc_false rfl rfl ?_
      refine wc_skip ?_
      refine seq_n ?_
      refine wc_seq ?_
      refine sR ?_
      iterate 2 refine rC rfl ik0 ?_
      refine nS ?_
      refine wc_false rfl rfl ?_
      refine wc_skip ?_
      refine seq_n ?_
      refine sR ?_
      refine rC rfl ik0 ?_
      refine rQ rfl (rem_nat (a := u) (b := 10) tab_ok rfl rfl rfl (by decide)) ?_
      refine rC rfl ik0 ?_
      refine rQ rfl (rem_nat (a := u) (b := 10) tab_ok rfl rfl rfl (by decide)) ?_
      refine rQ rfl (add_int (m := ((u % 10 + 1 : Nat) : Int)) tab_ok rfl rfl hw1) ?_
      refine rQ rfl (str_mid (l := decD) (lo := u % 10) (hi := u % 10 + 1) tab_ok rfl rfl rfl rfl hle (by omega) hcut) ?_
      refine rC rfl ik0 ?_
      refine nS ?_
      refine wc_seq ?_
      refine sR ?_
      iterate 2 refine rC rfl ik0 ?_
      refine nS ?_
      refine wc_true rfl (by assumption) ?_
      refine wc_region ?_
      refine rC rfl ik0 ?_
      refine rQ rfl (quo_nat (a := u) (b := 10) tab_ok rfl rfl rfl (by decide) hw2) ?_
      refine rQ rfl (call_r hrec rfl rfl (arg_e arg_nil) (.inl rfl) (fun _ => rfl)) ?_
      refine rC rfl ik0 ?_
      refine rQ rfl (add_str (a := Lib.decDigits (u / 10)) (b := [UInt8.ofNat (48 + u % 10)]) rfl rfl hlen rfl) ?_
      refine rC rfl ik0 ?_
      refine nR ?_
      iterate 2 refine rC rfl ik0 ?_
      refine nS ?_
      refine wc_ret ?_
      exact ⟨trivial, [], .of rfl rfl rfl rfl rfl ⟨⟨_, rfl, AVLe.of_eq rfl⟩, rfl, trivial⟩ trivial⟩
    · have hd : decide (9 < (u : Int)) = false := decide_eq_false (by omega)
      rw [show Lib.decDigits u = [UInt8.ofNat (48 + u % 10)] by rw [Lib.decDigits, dif_pos (by omega), Nat.mod_eq_of_lt (by omega)]]
      refine sR ?_
      refine rC rfl ik0 ?_
      refine nS ?_
      refine wc_seq ?_
      refine sR ?_
      iterate 2 refine rC rfl ik0 ?_
      refine nS ?_
      refine wc_false rfl rfl ?_
      refine wc_skip ?_
      refine seq_n ?_
      refine wc_seq ?_
      refine sR ?_
      iterate 2 refine rC rfl ik0 ?_
      refine nS ?_
      refine wc_false rfl rfl ?_
      refine wc_skip ?_
      refine seq_n ?_
      refine sR ?_
      refine rC rfl ik0 ?_
      refine rQ rfl (rem_nat (a := u) (b := 10) tab_ok rfl rfl rfl (by decide)) ?_
      refine rC rfl ik0 ?_
      refine rQ rfl (rem_nat (a := u) (b := 10) tab_ok rfl rfl rfl (by decide)) ?_
      refine rQ rfl (add_int (m := ((u % 10 + 1 : Nat) : Int)) tab_ok rfl rfl hw1) ?_
      refine rQ rfl (str_mid (l := decD) (lo := u % 10) (hi := u % 10 + 1) tab_ok rfl rfl rfl rfl hle (by omega) hcut) ?_
      refine rC rfl ik0 ?_
      refine nS ?_
      refine wc_seq ?_
      refine sR ?_
      iterate 2 refine rC rfl ik0 ?_
      refine nS ?_
      refine wc_false rfl (by assumption) ?_
      refine wc_skip ?_
      refine seq_n ?_
      refine sR ?_
      iterate 2 refine rC rfl ik0 ?_
      refine nS ?_
      refine wc_ret ?_
      exact ⟨trivial, [], .of rfl rfl rfl rfl rfl ⟨⟨_, rfl, AVLe.of_eq rfl⟩, rfl, trivial⟩ trivial⟩
theorem number_is (n : Int) (h0 : -9223372036854775808 ≤ n) (h1 : n ≤ 9223372036854775807) : FnIs Tryz.prog 51 [.int .i64 n] [] (.d (strD (Lib.itoa n))) [] := by
  by_cases hn : n < 0
  · by_cases hm : n = -9223372036854775808
    · subst hm
      rw [show Lib.itoa (-9223372036854775808) = [45, 57, 50, 50, 51, 51, 55, 50, 48, 51, 54, 56, 53, 52, 55, 55, 53, 56, 48, 56] by decide +kernel]
      refine fnIs_of tab_ok Tryz.func51 rfl rfl rfl ?_
      refine sR ?_
      refine rC rfl ik0 ?_
      refine nS ?_
      refine wc_seq ?_
      refine sR ?_
      iterate 2 refine rC rfl ik0 ?_
      refine nS ?_
      refine wc_true rfl rfl ?_
      refine sR ?_
      refine rC rfl ik0 ?_
      refine nS ?_
      refine wc_ret ?_
      refine seq_r ?_
      exact ⟨trivial, [], .of rfl rfl rfl rfl rfl ⟨⟨_, rfl, AVLe.of_eq rfl⟩, rfl, trivial⟩ trivial⟩
    · have hmin : decide (n = -9223372036854775808) = false := decide_eq_false hm
      have hneg : decide (n < 0) = true := decide_eq_true hn
      have hrec := numN_is n.natAbs (by omega)
      have hlen : [(45 : UInt8)].length + (Lib.decDigits n.natAbs).length ≤ 9223372036854775807 := by
        have := dec_len (u := n.natAbs) (by omega)
        simp; omega
      have hwn : IntKind.i64.wrap (-n) = (n.natAbs : Int) := by rw [wrap_i64 (by omega) (by omega)]; omega
      rw [show Lib.itoa n = [45] ++ Lib.decDigits n.natAbs by rw [Lib.itoa, if_pos hn]; rfl]
      refine fnIs_of tab_ok Tryz.func51 rfl rfl rfl ?_
      refine sR ?_
      refine rC rfl ik0 ?_
      refine nS ?_
      refine wc_seq ?_
      refine sR ?_
      iterate 2 refine rC rfl ik0 ?_
      refine nS ?_
      refine wc_false rfl (by assumption) ?_
      refine wc_skip ?_
      refine seq_n ?_
      refine wc_seq ?_
      refine sR ?_
      iterate 2 refine rC rfl ik0 ?_
      refine nS ?_
      refine wc_true rfl (by assumption) ?_
      refine sR ?_
      refine rC rfl ik0 ?_
      refine rQ rfl (step_C tab_ok (fun K hk => ⟨_, hwn, hk⟩)) ?_
      refine rQ rfl (call_r hrec rfl rfl (arg_e arg_nil) (.inl rfl) (fun _ => rfl)) ?_
      refine rQ rfl (add_str (a := [45]) (b := Lib.decDigits n.natAbs) rfl rfl hlen rfl) ?_
      refine rC rfl ik0 ?_
      refine nS ?_
      refine wc_ret ?_
      refine seq_r ?_
      exact ⟨trivial, [], .of rfl rfl rfl rfl rfl ⟨⟨_, rfl, AVLe.of_eq rfl⟩, rfl, trivial⟩ trivial⟩
  · have := numN_is n.toNat (by omega)
    rw [show ((n.toNat : Nat) : Int) = n by omega] at this
    rwa [show Lib.itoa n = Lib.decDigits n.toNat by rw [Lib.itoa, if_neg hn]]
end Go.Proofs.YtmojbghcngdkpaaGreatDoor

namespace Go.Proofs.YtmojbghcngdkpaaGreatDoor
open Go.Eng Go.Plain
set_option maxHeartbeats 4000000
set_option maxRecDepth 20000
attribute [local irreducible] WC RegS RegD SeqQ BlkQ ScoQ RegK CutK Sat SatN FnIs LoopQ StepIs OpIs
theorem hexD_cut {d : Nat} (h : d < 16) : (hexD.drop d).take (d + 1 - d) = [hexC d] := by
  have : ∀ d, d < 16 → (hexD.drop d).take (d + 1 - d) = [hexC d] := by decide
  exact this d h
theorem rhex_is (l : List UInt8) (hL : l.length ≤ 1000000000) : FnIs Tryz.prog 120 [.d (encB l)] [] (.d (strD (hexP l))) [] := by
  have hbl : (byI l).length = l.length := byI_len l
  refine fnIs_of tab_ok Tryz.func120 rfl rfl rfl ?_
  refine sR ?_
  refine rC rfl ik0 ?_
  refine nR ?_
  refine rC rfl ik0 ?_
  refine nS ?_
  refine wc_seq ?_
  refine sR ?_
  refine rC rfl ik0 ?_
  refine nS ?_
  refine wc_block ?_
  refine wc_inv (fun i : Nat => ⟨[(4, .int .i64 i), (3, .d (strD ((l.take i).flatMap hexB))), (0, .d (encB l))], [], 72, Tryz.f120.ntmps, 64⟩) (fun i => i ≤ l.length) (fun i => l.length - i) 0 [] (Nat.zero_le _)
    (.of rfl rfl rfl rfl rfl ⟨⟨_, rfl, .refl _⟩, rfl, ⟨_, rfl, .refl _⟩, rfl, ⟨_, rfl, .refl _⟩, rfl, trivial⟩ trivial) ?_
  intro i hi
  refine wc_of ?_
  refine wc_seq ?_
  refine sR ?_
  iterate 2 refine rC rfl ik0 ?_
  refine rQ rfl (len_arr tab_ok rfl rfl) ?_
  refine rC rfl ik0 ?_
  refine nS ?_
  refine wc_cond rfl (fun h3 => ?_) (fun h3 => ?_)
  · have hlt : i < l.length := by have := of_decide_eq_true h3; omega
    obtain ⟨b, hb⟩ : ∃ b, l[i]? = some b := ⟨_, List.getElem?_eq_getElem hlt⟩
    have hb' : (byI l)[((i : Int)).toNat]? = some (b.toNat : Int) := by rw [Int.toNat_natCast]; exact byI_get hb
    have hb8 : b.toNat < 256 := b.toNat_lt
    have hw1 : IntKind.u8.wrap (((b.toNat / 16 : Nat) : Int) + 1) = ((b.toNat / 16 + 1 : Nat) : Int) := wrap_u8n (a := b.toNat / 16 + 1) (by omega)
    have hw2 : IntKind.u8.wrap (((b.toNat % 16 : Nat) : Int) + 1) = ((b.toNat % 16 + 1 : Nat) : Int) := wrap_u8n (a := b.toNat % 16 + 1) (by omega)
    have hle1 : b.toNat / 16 + 1 ≤ hexD.length := by show _ ≤ 16; omega
    have hle2 : b.toNat % 16 + 1 ≤ hexD.length := by show _ ≤ 16; omega
    have hcut1 := hexD_cut (d := b.toNat / 16) (by omega)
    have hcut2 := hexD_cut (d := b.toNat % 16) (by omega)
    have hpl : ((l.take i).flatMap hexB).length = 2 * i := by rw [hexB_len, List.length_take, Nat.min_eq_left hi]
    have hlen1 : ((l.take i).flatMap hexB).length + [hexC (b.toNat / 16)].length ≤ 9223372036854775807 := by rw [hpl]; simp; omega
    have hlen2 : ((l.take i).flatMap hexB ++ [hexC (b.toNat / 16)]).length + [hexC (b.toNat % 16)].length ≤ 9223372036854775807 := by rw [List.length_append, hpl]; simp; omega
    have hgo := hex_take hb
    refine wc_skip ?_
    refine seq_n ?_
    refine wc_seq ?_
    refine wc_block ?_
    refine wc_seq ?_
    refine wc_draw (by kernel_rfl) ?_
    refine dreg_q [0] [] rfl (step_C tab_ok (fun K hk => hk)) ?_
    refine dreg_q [4] [] rfl (step_C tab_ok (fun K hk => hk)) ?_
    refine dreg_q [13, 14] [] rfl (index_arr tab_ok rfl rfl rfl rfl rfl (by omega) (by assumption)) ?_
    refine dreg_q [15] [] rfl (load_i tab_ok rfl rfl) ?_
    refine dreg_q [16] [] rfl (shr_nat (a := b.toNat) (s := 4) (m := b.toNat / 16) rfl rfl (by decide) rfl) ?_
    refine dreg_q [0] [] rfl (step_C tab_ok (fun K hk => hk)) ?_
    refine dreg_q [4] [] rfl (step_C tab_ok (fun K hk => hk)) ?_
    refine dreg_q [18, 19] [] rfl (index_arr tab_ok rfl rfl rfl rfl rfl (by omega) (by assumption)) ?_
    refine dreg_q [20] [] rfl (load_i tab_ok rfl rfl) ?_
    refine dreg_q [21] [] rfl (and_nat (a := b.toNat) (b := 15) (m := b.toNat % 16) rfl rfl rfl hb8 (by decide) (Nat.and_two_pow_sub_one_eq_mod b.toNat 4)) ?_
    refine dreg_q [17] [] rfl (step_C tab_ok (fun K hk => hk)) ?_
    refine dreg_q [22] [] rfl (step_C tab_ok (fun K hk => hk)) ?_
    refine dreg_end (by kernel_rfl) ?_
    refine seq_n ?_
    refine wc_draw (by kernel_rfl) ?_
    refine dreg_q [3] [] rfl (step_C tab_ok (fun K hk => hk)) ?_
    iterate 2 refine dreg_q [5] [] rfl (step_C tab_ok (fun K hk => hk)) ?_
    refine dreg_q [25] [] rfl (add_int (m := ((b.toNat / 16 + 1 : Nat) : Int)) tab_ok rfl rfl hw1) ?_
    refine dreg_q [24, 26] [] rfl (str_mid (l := hexD) (lo := b.toNat / 16) (hi := b.toNat / 16 + 1) tab_ok rfl rfl rfl rfl hle1 (by omega) hcut1) ?_
    refine dreg_q [23, 27] [] rfl (add_str (a := (l.take i).flatMap hexB) (b := [hexC (b.toNat / 16)]) rfl rfl hlen1 rfl) ?_
    iterate 2 refine dreg_q [6] [] rfl (step_C tab_ok (fun K hk => hk)) ?_
    refine dreg_q [30] [] rfl (add_int (m := ((b.toNat % 16 + 1 : Nat) : Int)) tab_ok rfl rfl hw2) ?_
    refine dreg_q [29, 31] [] rfl (str_mid (l := hexD) (lo := b.toNat % 16) (hi := b.toNat % 16 + 1) tab_ok rfl rfl rfl rfl hle2 (by omega) hcut2) ?_
    refine dreg_q [28, 32] [] rfl (add_str (a := (l.take i).flatMap hexB ++ [hexC (b.toNat / 16)]) (b := [hexC (b.toNat % 16)]) rfl rfl hlen2 rfl) ?_
    refine dreg_q [33] [] rfl (step_C tab_ok (fun K hk => hk)) ?_
    refine dreg_end (by kernel_rfl) ?_
    refine blk_n ?_
    refine seq_n ?_
    refine wc_region ?_
    refine rC rfl ik0 ?_
    refine rQ rfl (add_int tab_ok rfl rfl (wrap_i64 (by omega) (by omega))) ?_
    refine rC rfl ik0 ?_
    refine reg_nil ?_
    exact loop_n (i + 1) [] hlt (by omega) (.of rfl rfl rfl rfl rfl ⟨⟨_, rfl, .refl _⟩, rfl, ⟨_, rfl, AVLe.of_eq (by rw [hgo]; rfl)⟩, rfl, ⟨_, rfl, .refl _⟩, rfl, trivial⟩ trivial)
  · have he : i = l.length := by have := of_decide_eq_false h3; omega
    subst he
    rw [List.take_length]
    by_cases hn : l = []
    · have hd : decide (l.flatMap hexB = []) = true := by rw [hn]; rfl
      rw [show hexP l = [45] from if_pos hn]
      refine wc_exit ?_
      refine seq_x ?_
      refine loop_x ?_
      refine blk_x ?_
      refine seq_n ?_
      refine wc_seq ?_
      refine sR ?_
      refine rC rfl ik0 ?_
      refine rQ rfl (eql_s (a := l.flatMap hexB) (b := []) tab_ok rfl rfl rfl) ?_
      refine nS ?_
      refine wc_true rfl (by assumption) ?_
      refine wc_region ?_
      refine rC rfl ik0 ?_
      refine nR ?_
      iterate 2 refine rC rfl ik0 ?_
      refine nS ?_
      refine wc_ret ?_
      exact ⟨trivial, [], .of rfl rfl rfl rfl rfl ⟨⟨_, rfl, AVLe.of_eq rfl⟩, rfl, trivial⟩ trivial⟩
    · have hd : decide (l.flatMap hexB = []) = false := decide_eq_false fun e => hn (by
        have := hexB_len l
        rw [e] at this
        exact List.eq_nil_of_length_eq_zero (by simp at this; omega))
      rw [show hexP l = l.flatMap hexB from if_neg hn]
      refine wc_exit ?_
      refine seq_x ?_
      refine loop_x ?_
      refine blk_x ?_
      refine seq_n ?_
      refine wc_seq ?_
      refine sR ?_
      refine rC rfl ik0 ?_
      refine rQ rfl (eql_s (a := l.flatMap hexB) (b := []) tab_ok rfl rfl rfl) ?_
      refine nS ?_
      refine wc_false rfl (by assumption) ?_
      refine wc_skip ?_
      refine seq_n ?_
      refine sR ?_
      iterate 2 refine rC rfl ik0 ?_
      refine nS ?_
      refine wc_ret ?_
      exact ⟨trivial, [], .of rfl rfl rfl rfl rfl ⟨⟨_, rfl, AVLe.of_eq rfl⟩, rfl, trivial⟩ trivial⟩
end Go.Proofs.YtmojbghcngdkpaaGreatDoor

namespace Go.Proofs.YtmojbghcngdkpaaGreatDoor
open Go.Eng Go.Plain
set_option maxHeartbeats 4000000
set_option maxRecDepth 20000
attribute [local irreducible] WC RegS RegD SeqQ BlkQ ScoQ RegK CutK Sat SatN FnIs LoopQ StepIs OpIs
theorem rline_read (o : POp) (hok : o.Ok) (hL : o.data.length ≤ 1000000000) (hk : o.kind = 1) (hd0 : o.data = []) : FnIs Tryz.prog 85 [.d (encPOp o)] [] (.d (strD (lineP o))) [] := by
  obtain ⟨⟨kk0, kk1⟩, h0, h1⟩ := hok
  have k0 : -9223372036854775808 ≤ o.kind := by omega
  have k1 : o.kind ≤ 9223372036854775807 := by omega
  have hwk : IntKind.i64.wrap o.kind = o.kind := wrap_i64 (by omega) (by omega)
  have l1 := itoa_len h0 h1
  have l2 := itoa_len k0 k1
  have l3 := hexP_len o.data
  have hk1 : decide (o.kind = 1) = true := decide_eq_true (by omega)
  have hd := len0_iff o.data true (decide_eq_true hd0)
  rw [show lineP o = sRead ++ [32] ++ Lib.itoa o.index by rw [lineP, if_pos ⟨hk, hd0⟩]; simp]
  refine fnIs_of tab_ok Tryz.func85 rfl rfl rfl ?_
  refine sR ?_
  refine reg_new (step_C tab_ok (fun K hk => hk)) rfl ?_
  refine rC rfl ik0 ?_
  refine nS ?_
  refine wc_seq ?_
  refine sR ?_
  refine rC rfl ik0 ?_
  refine rQ rfl (load_box tab_ok rfl rfl ⟨_, rfl, rfl⟩ rfl) ?_
  iterate 2 refine rC rfl ik0 ?_
  refine reg_on rfl rfl (by assumption) ?_
  refine rC rfl ik0 ?_
  refine reg_on rfl rfl (by assumption) ?_
  refine rQ rfl (load_box tab_ok rfl rfl ⟨_, rfl, rfl⟩ rfl) ?_
  refine reg_on rfl rfl (by assumption) ?_
  refine rQ rfl (len_arr tab_ok rfl rfl) ?_
  refine reg_on rfl rfl (by assumption) ?_
  refine rC rfl ik0 ?_
  refine rQ rfl (pick_T tab_ok rfl (by assumption) rfl) ?_
  refine nS ?_
  refine wc_true rfl (by assumption) ?_
  refine sR ?_
  refine rC rfl ik0 ?_
  refine rQ rfl (load_box tab_ok rfl rfl ⟨_, rfl, rfl⟩ rfl) ?_
  refine rQ rfl (call_r (number_is _ h0 h1) rfl rfl (arg_e arg_nil) (.inl rfl) (fun _ => rfl)) ?_
  refine rQ rfl (add_str (a := sRead ++ [32]) (b := Lib.itoa o.index) rfl rfl (by simp [sRead]; omega) rfl) ?_
  refine rC rfl ik0 ?_
  refine nS ?_
  refine wc_ret ?_
  refine seq_r ?_
  exact ⟨trivial, [], .of rfl rfl rfl rfl rfl ⟨⟨_, rfl, AVLe.of_eq rfl⟩, rfl, trivial⟩ trivial⟩
theorem rline_write (o : POp) (hok : o.Ok) (hL : o.data.length ≤ 1000000000) (hk : o.kind = 2) : FnIs Tryz.prog 85 [.d (encPOp o)] [] (.d (strD (lineP o))) [] := by
  obtain ⟨⟨kk0, kk1⟩, h0, h1⟩ := hok
  have k0 : -9223372036854775808 ≤ o.kind := by omega
  have k1 : o.kind ≤ 9223372036854775807 := by omega
  have hwk : IntKind.i64.wrap o.kind = o.kind := wrap_i64 (by omega) (by omega)
  have l1 := itoa_len h0 h1
  have l2 := itoa_len k0 k1
  have l3 := hexP_len o.data
  have hk1 : decide (o.kind = 1) = false := decide_eq_false (by omega)
  have hk2 : decide (o.kind = 2) = true := decide_eq_true (by omega)
  rw [show lineP o = sWrite ++ [32] ++ Lib.itoa o.index ++ [32] ++ hexP o.data by rw [lineP, if_neg (fun h => by have := h.1; omega), if_pos hk]; simp]
  refine fnIs_of tab_ok Tryz.func85 rfl rfl rfl ?_
  refine sR ?_
  refine reg_new (step_C tab_ok (fun K hk => hk)) rfl ?_
  refine rC rfl ik0 ?_
  refine nS ?_
  refine wc_seq ?_
  refine sR ?_
  refine rC rfl ik0 ?_
  refine rQ rfl (load_box tab_ok rfl rfl ⟨_, rfl, rfl⟩ rfl) ?_
  iterate 2 refine rC rfl ik0 ?_
  iterate 4 refine reg_skip rfl rfl (by assumption) rfl rfl ?_
  refine rQ rfl (pick_F tab_ok rfl (by assumption) rfl) ?_
  refine nS ?_
  refine wc_false rfl rfl ?_
  refine wc_skip ?_
  refine seq_n ?_
  refine wc_seq ?_
  refine sR ?_
  refine rC rfl ik0 ?_
  refine rQ rfl (load_box tab_ok rfl rfl ⟨_, rfl, rfl⟩ rfl) ?_
  refine rC rfl ik0 ?_
  refine nS ?_
  refine wc_true rfl (by assumption) ?_
  refine wc_seq ?_
  refine wc_draw (by kernel_rfl) ?_
  refine dreg_q [1] [64] rfl (step_C tab_ok (fun K hk => hk)) ?_
  refine dreg_q [19] [64] rfl (load_box tab_ok rfl rfl ⟨_, rfl, rfl⟩ rfl) ?_
  refine dreg_q [20] [] rfl (call_r (number_is _ h0 h1) rfl rfl (arg_e arg_nil) (.inl rfl) (fun _ => rfl)) ?_
  refine dreg_q [21] [] rfl (add_str (a := sWrite ++ [32]) (b := Lib.itoa o.index) rfl rfl (by simp [sWrite]; omega) rfl) ?_
  refine dreg_q [22] [] rfl (add_str (a := sWrite ++ [32] ++ Lib.itoa o.index) (b := [32]) rfl rfl (by simp [sWrite]; omega) rfl) ?_
  refine dreg_q [1] [64] rfl (step_C tab_ok (fun K hk => hk)) ?_
  refine dreg_q [24] [64] rfl (load_box tab_ok rfl rfl ⟨_, rfl, rfl⟩ rfl) ?_
  refine dreg_q [25] [] rfl (call_r (rhex_is o.data hL) rfl rfl (arg_e arg_nil) (.inl rfl) (fun _ => rfl)) ?_
  refine dreg_q [23, 26] [] rfl (add_str (a := sWrite ++ [32] ++ Lib.itoa o.index ++ [32]) (b := hexP o.data) rfl rfl (by simp [sWrite]; omega) rfl) ?_
  refine dreg_q [27] [] rfl (step_C tab_ok (fun K hk => hk)) ?_
  refine dreg_end (by kernel_rfl) ?_
  refine seq_n ?_
  refine wc_ret ?_
  refine seq_r ?_
  exact ⟨trivial, [], .of rfl rfl rfl rfl rfl ⟨⟨_, rfl, AVLe.of_eq rfl⟩, rfl, trivial⟩ trivial⟩
theorem rline_flush (o : POp) (hok : o.Ok) (hL : o.data.length ≤ 1000000000) (hk : o.kind = 3) (hi0 : o.index = 0) (hd0 : o.data = []) : FnIs Tryz.prog 85 [.d (encPOp o)] [] (.d (strD (lineP o))) [] := by
  obtain ⟨⟨kk0, kk1⟩, h0, h1⟩ := hok
  have k0 : -9223372036854775808 ≤ o.kind := by omega
  have k1 : o.kind ≤ 9223372036854775807 := by omega
  have hwk : IntKind.i64.wrap o.kind = o.kind := wrap_i64 (by omega) (by omega)
  have l1 := itoa_len h0 h1
  have l2 := itoa_len k0 k1
  have l3 := hexP_len o.data
  have hk1 : decide (o.kind = 1) = false := decide_eq_false (by omega)
  have hk2 : decide (o.kind = 2) = false := decide_eq_false (by omega)
  have hk3 : decide (o.kind = 3) = true := decide_eq_true (by omega)
  have hd := len0_iff o.data true (decide_eq_true hd0)
  have hi : decide (o.index = 0) = true := decide_eq_true hi0
  rw [show lineP o = sFlush by rw [lineP, if_neg (fun h => by have := h.1; omega), if_neg (by omega), if_pos ⟨hk, hi0, hd0⟩]]
  refine fnIs_of tab_ok Tryz.func85 rfl rfl rfl ?_
  refine sR ?_
  refine reg_new (step_C tab_ok (fun K hk => hk)) rfl ?_
  refine rC rfl ik0 ?_
  refine nS ?_
  refine wc_seq ?_
  refine sR ?_
  refine rC rfl ik0 ?_
  refine rQ rfl (load_box tab_ok rfl rfl ⟨_, rfl, rfl⟩ rfl) ?_
  iterate 2 refine rC rfl ik0 ?_
  iterate 4 refine reg_skip rfl rfl (by assumption) rfl rfl ?_
  refine rQ rfl (pick_F tab_ok rfl (by assumption) rfl) ?_
  refine nS ?_
  refine wc_false rfl rfl ?_
  refine wc_skip ?_
  refine seq_n ?_
  refine wc_seq ?_
  refine sR ?_
  refine rC rfl ik0 ?_
  refine rQ rfl (load_box tab_ok rfl rfl ⟨_, rfl, rfl⟩ rfl) ?_
  refine rC rfl ik0 ?_
  refine nS ?_
  refine wc_false rfl (by assumption) ?_
  refine wc_skip ?_
  refine seq_n ?_
  refine wc_seq ?_
  refine sR ?_
  refine rC rfl ik0 ?_
  refine rQ rfl (load_box tab_ok rfl rfl ⟨_, rfl, rfl⟩ rfl) ?_
  iterate 2 refine rC rfl ik0 ?_
  refine reg_on rfl rfl (by assumption) ?_
  refine rC rfl ik0 ?_
  refine reg_on rfl rfl (by assumption) ?_
  refine rQ rfl (load_box tab_ok rfl rfl ⟨_, rfl, rfl⟩ rfl) ?_
  refine reg_on rfl rfl (by assumption) ?_
  refine rC rfl ik0 ?_
  refine rQ rfl (pick_T tab_ok rfl (by assumption) rfl) ?_
  refine rC rfl ik0 ?_
  refine reg_on rfl rfl (by assumption) ?_
  refine rC rfl ik0 ?_
  refine reg_on rfl rfl (by assumption) ?_
  refine rQ rfl (load_box tab_ok rfl rfl ⟨_, rfl, rfl⟩ rfl) ?_
  refine reg_on rfl rfl (by assumption) ?_
  refine rQ rfl (len_arr tab_ok rfl rfl) ?_
  refine reg_on rfl rfl (by assumption) ?_
  refine rC rfl ik0 ?_
  refine rQ rfl (pick_T tab_ok rfl (by assumption) rfl) ?_
  refine nS ?_
  refine wc_true rfl (by assumption) ?_
  refine sR ?_
  refine rC rfl ik0 ?_
  refine nS ?_
  refine wc_ret ?_
  refine seq_r ?_
  exact ⟨trivial, [], .of rfl rfl rfl rfl rfl ⟨⟨_, rfl, AVLe.of_eq rfl⟩, rfl, trivial⟩ trivial⟩
theorem rline_op1 (o : POp) (hok : o.Ok) (hL : o.data.length ≤ 1000000000) (hk : o.kind = 1) (hd0 : ¬ o.data = []) : FnIs Tryz.prog 85 [.d (encPOp o)] [] (.d (strD (lineP o))) [] := by
  obtain ⟨⟨kk0, kk1⟩, h0, h1⟩ := hok
  have k0 : -9223372036854775808 ≤ o.kind := by omega
  have k1 : o.kind ≤ 9223372036854775807 := by omega
  have hwk : IntKind.i64.wrap o.kind = o.kind := wrap_i64 (by omega) (by omega)
  have l1 := itoa_len h0 h1
  have l2 := itoa_len k0 k1
  have l3 := hexP_len o.data
  have hk1 : decide (o.kind = 1) = true := decide_eq_true (by omega)
  have hk2 : decide (o.kind = 2) = false := decide_eq_false (by omega)
  have hk3 : decide (o.kind = 3) = false := decide_eq_false (by omega)
  have hd := len0_iff o.data false (decide_eq_false hd0)
  rw [show lineP o = sOp ++ [32] ++ Lib.itoa o.kind ++ [32] ++ Lib.itoa o.index ++ [32] ++ hexP o.data by rw [lineP, if_neg (fun h => hd0 h.2), if_neg (by omega), if_neg (fun h => by have := h.1; omega)]; simp]
  refine fnIs_of tab_ok Tryz.func85 rfl rfl rfl ?_
  refine sR ?_
  refine reg_new (step_C tab_ok (fun K hk => hk)) rfl ?_
  refine rC rfl ik0 ?_
  refine nS ?_
  refine wc_seq ?_
  refine sR ?_
  refine rC rfl ik0 ?_
  refine rQ rfl (load_box tab_ok rfl rfl ⟨_, rfl, rfl⟩ rfl) ?_
  iterate 2 refine rC rfl ik0 ?_
  refine reg_on rfl rfl (by assumption) ?_
  refine rC rfl ik0 ?_
  refine reg_on rfl rfl (by assumption) ?_
  refine rQ rfl (load_box tab_ok rfl rfl ⟨_, rfl, rfl⟩ rfl) ?_
  refine reg_on rfl rfl (by assumption) ?_
  refine rQ rfl (len_arr tab_ok rfl rfl) ?_
  refine reg_on rfl rfl (by assumption) ?_
  refine rC rfl ik0 ?_
  refine rQ rfl (pick_T tab_ok rfl (by assumption) rfl) ?_
  refine nS ?_
  refine wc_false rfl (by assumption) ?_
  refine wc_skip ?_
  refine seq_n ?_
  refine wc_seq ?_
  refine sR ?_
  refine rC rfl ik0 ?_
  refine rQ rfl (load_box tab_ok rfl rfl ⟨_, rfl, rfl⟩ rfl) ?_
  refine rC rfl ik0 ?_
  refine nS ?_
  refine wc_false rfl (by assumption) ?_
  refine wc_skip ?_
  refine seq_n ?_
  refine wc_seq ?_
  refine sR ?_
  refine rC rfl ik0 ?_
  refine rQ rfl (load_box tab_ok rfl rfl ⟨_, rfl, rfl⟩ rfl) ?_
  iterate 2 refine rC rfl ik0 ?_
  iterate 3 refine reg_skip rfl rfl (by assumption) rfl rfl ?_
  refine rQ rfl (pick_F tab_ok rfl (by assumption) rfl) ?_
  refine rC rfl ik0 ?_
  iterate 4 refine reg_skip rfl rfl rfl rfl rfl ?_
  refine rQ rfl (pick_F tab_ok rfl rfl rfl) ?_
  refine nS ?_
  refine wc_false rfl rfl ?_
  refine wc_skip ?_
  refine seq_n ?_
  refine wc_seq ?_
  refine wc_draw (by kernel_rfl) ?_
  refine dreg_q [1] [64] rfl (step_C tab_ok (fun K hk => hk)) ?_
  refine dreg_q [42] [64] rfl (load_box tab_ok rfl rfl ⟨_, rfl, rfl⟩ rfl) ?_
  refine dreg_q [43] [] rfl (conv_int (m := o.kind) tab_ok rfl rfl rfl hwk) ?_
  refine dreg_q [44] [] rfl (call_r (number_is _ k0 k1) rfl rfl (arg_e arg_nil) (.inl rfl) (fun _ => rfl)) ?_
  refine dreg_q [45] [] rfl (add_str (a := sOp ++ [32]) (b := Lib.itoa o.kind) rfl rfl (by simp [sOp]; omega) rfl) ?_
  refine dreg_q [46] [] rfl (add_str (a := sOp ++ [32] ++ Lib.itoa o.kind) (b := [32]) rfl rfl (by simp [sOp]; omega) rfl) ?_
  refine dreg_q [1] [64] rfl (step_C tab_ok (fun K hk => hk)) ?_
  refine dreg_q [48] [64] rfl (load_box tab_ok rfl rfl ⟨_, rfl, rfl⟩ rfl) ?_
  refine dreg_q [49] [] rfl (call_r (number_is _ h0 h1) rfl rfl (arg_e arg_nil) (.inl rfl) (fun _ => rfl)) ?_
  refine dreg_q [47, 50] [] rfl (add_str (a := sOp ++ [32] ++ Lib.itoa o.kind ++ [32]) (b := Lib.itoa o.index) rfl rfl (by simp [sOp]; omega) rfl) ?_
  refine dreg_q [51] [] rfl (add_str (a := sOp ++ [32] ++ Lib.itoa o.kind ++ [32] ++ Lib.itoa o.index) (b := [32]) rfl rfl (by simp [sOp]; omega) rfl) ?_
  refine dreg_q [1] [64] rfl (step_C tab_ok (fun K hk => hk)) ?_
  refine dreg_q [53] [64] rfl (load_box tab_ok rfl rfl ⟨_, rfl, rfl⟩ rfl) ?_
  refine dreg_q [54] [] rfl (call_r (rhex_is o.data hL) rfl rfl (arg_e arg_nil) (.inl rfl) (fun _ => rfl)) ?_
  refine dreg_q [52, 55] [] rfl (add_str (a := sOp ++ [32] ++ Lib.itoa o.kind ++ [32] ++ Lib.itoa o.index ++ [32]) (b := hexP o.data) rfl rfl (by simp [sOp]; omega) rfl) ?_
  refine dreg_q [56] [] rfl (step_C tab_ok (fun K hk => hk)) ?_
  refine dreg_end (by kernel_rfl) ?_
  refine seq_n ?_
  refine wc_ret ?_
  exact ⟨trivial, [], .of rfl rfl rfl rfl rfl ⟨⟨_, rfl, AVLe.of_eq rfl⟩, rfl, trivial⟩ trivial⟩
theorem rline_op2 (o : POp) (hok : o.Ok) (hL : o.data.length ≤ 1000000000) (hk1 : ¬ o.kind = 1) (hk2 : ¬ o.kind = 2) (hk3 : ¬ o.kind = 3) : FnIs Tryz.prog 85 [.d (encPOp o)] [] (.d (strD (lineP o))) [] := by
  obtain ⟨⟨kk0, kk1⟩, h0, h1⟩ := hok
  have k0 : -9223372036854775808 ≤ o.kind := by omega
  have k1 : o.kind ≤ 9223372036854775807 := by omega
  have hwk : IntKind.i64.wrap o.kind = o.kind := wrap_i64 (by omega) (by omega)
  have l1 := itoa_len h0 h1
  have l2 := itoa_len k0 k1
  have l3 := hexP_len o.data
  have hk1 : decide (o.kind = 1) = false := decide_eq_false (by omega)
  have hk2 : decide (o.kind = 2) = false := decide_eq_false (by omega)
  have hk3 : decide (o.kind = 3) = false := decide_eq_false (by omega)
  rw [show lineP o = sOp ++ [32] ++ Lib.itoa o.kind ++ [32] ++ Lib.itoa o.index ++ [32] ++ hexP o.data by rw [lineP, if_neg (fun h => by have := h.1; omega), if_neg (by omega), if_neg (fun h => by have := h.1; omega)]; simp]
  refine fnIs_of tab_ok Tryz.func85 rfl rfl rfl ?_
  refine sR ?_
  refine reg_new (step_C tab_ok (fun K hk => hk)) rfl ?_
  refine rC rfl ik0 ?_
  refine nS ?_
  refine wc_seq ?_
  refine sR ?_
  refine rC rfl ik0 ?_
  refine rQ rfl (load_box tab_ok rfl rfl ⟨_, rfl, rfl⟩ rfl) ?_
  iterate 2 refine rC rfl ik0 ?_
  iterate 4 refine reg_skip rfl rfl (by assumption) rfl rfl ?_
  refine rQ rfl (pick_F tab_ok rfl (by assumption) rfl) ?_
  refine nS ?_
  refine wc_false rfl rfl ?_
  refine wc_skip ?_
  refine seq_n ?_
  refine wc_seq ?_
  refine sR ?_
  refine rC rfl ik0 ?_
  refine rQ rfl (load_box tab_ok rfl rfl ⟨_, rfl, rfl⟩ rfl) ?_
  refine rC rfl ik0 ?_
  refine nS ?_
  refine wc_false rfl (by assumption) ?_
  refine wc_skip ?_
  refine seq_n ?_
  refine wc_seq ?_
  refine sR ?_
  refine rC rfl ik0 ?_
  refine rQ rfl (load_box tab_ok rfl rfl ⟨_, rfl, rfl⟩ rfl) ?_
  iterate 2 refine rC rfl ik0 ?_
  iterate 3 refine reg_skip rfl rfl (by assumption) rfl rfl ?_
  refine rQ rfl (pick_F tab_ok rfl (by assumption) rfl) ?_
  refine rC rfl ik0 ?_
  iterate 4 refine reg_skip rfl rfl rfl rfl rfl ?_
  refine rQ rfl (pick_F tab_ok rfl rfl rfl) ?_
  refine nS ?_
  refine wc_false rfl rfl ?_
  refine wc_skip ?_
  refine seq_n ?_
  refine wc_seq ?_
  refine wc_draw (by kernel_rfl) ?_
  refine dreg_q [1] [64] rfl (step_C tab_ok (fun K hk => hk)) ?_
  refine dreg_q [42] [64] rfl (load_box tab_ok rfl rfl ⟨_, rfl, rfl⟩ rfl) ?_
  refine dreg_q [43] [] rfl (conv_int (m := o.kind) tab_ok rfl rfl rfl hwk) ?_
  refine dreg_q [44] [] rfl (call_r (number_is _ k0 k1) rfl rfl (arg_e arg_nil) (.inl rfl) (fun _ => rfl)) ?_
  refine dreg_q [45] [] rfl (add_str (a := sOp ++ [32]) (b := Lib.itoa o.kind) rfl rfl (by simp [sOp]; omega) rfl) ?_
  refine dreg_q [46] [] rfl (add_str (a := sOp ++ [32] ++ Lib.itoa o.kind) (b := [32]) rfl rfl (by simp [sOp]; omega) rfl) ?_
  refine dreg_q [1] [64] rfl (step_C tab_ok (fun K hk => hk)) ?_
  refine dreg_q [48] [64] rfl (load_box tab_ok rfl rfl ⟨_, rfl, rfl⟩ rfl) ?_
  refine dreg_q [49] [] rfl (call_r (number_is _ h0 h1) rfl rfl (arg_e arg_nil) (.inl rfl) (fun _ => rfl)) ?_
  refine dreg_q [47, 50] [] rfl (add_str (a := sOp ++ [32] ++ Lib.itoa o.kind ++ [32]) (b := Lib.itoa o.index) rfl rfl (by simp [sOp]; omega) rfl) ?_
  refine dreg_q [51] [] rfl (add_str (a := sOp ++ [32] ++ Lib.itoa o.kind ++ [32] ++ Lib.itoa o.index) (b := [32]) rfl rfl (by simp [sOp]; omega) rfl) ?_
  refine dreg_q [1] [64] rfl (step_C tab_ok (fun K hk => hk)) ?_
  refine dreg_q [53] [64] rfl (load_box tab_ok rfl rfl ⟨_, rfl, rfl⟩ rfl) ?_
  refine dreg_q [54] [] rfl (call_r (rhex_is o.data hL) rfl rfl (arg_e arg_nil) (.inl rfl) (fun _ => rfl)) ?_
  refine dreg_q [52, 55] [] rfl (add_str (a := sOp ++ [32] ++ Lib.itoa o.kind ++ [32] ++ Lib.itoa o.index ++ [32]) (b := hexP o.data) rfl rfl (by simp [sOp]; omega) rfl) ?_
  refine dreg_q [56] [] rfl (step_C tab_ok (fun K hk => hk)) ?_
  refine dreg_end (by kernel_rfl) ?_
  refine seq_n ?_
  refine wc_ret ?_
  exact ⟨trivial, [], .of rfl rfl rfl rfl rfl ⟨⟨_, rfl, AVLe.of_eq rfl⟩, rfl, trivial⟩ trivial⟩
theorem rline_op3 (o : POp) (hok : o.Ok) (hL : o.data.length ≤ 1000000000) (hk : o.kind = 3) (hi0 : ¬ o.index = 0) : FnIs Tryz.prog 85 [.d (encPOp o)] [] (.d (strD (lineP o))) [] := by
  obtain ⟨⟨kk0, kk1⟩, h0, h1⟩ := hok
  have k0 : -9223372036854775808 ≤ o.kind := by omega
  have k1 : o.kind ≤ 9223372036854775807 := by omega
  have hwk : IntKind.i64.wrap o.kind = o.kind := wrap_i64 (by omega) (by omega)
  have l1 := itoa_len h0 h1
  have l2 := itoa_len k0 k1
  have l3 := hexP_len o.data
  have hk1 : decide (o.kind = 1) = false := decide_eq_false (by omega)
  have hk2 : decide (o.kind = 2) = false := decide_eq_false (by omega)
  have hk3 : decide (o.kind = 3) = true := decide_eq_true (by omega)
  have hi : decide (o.index = 0) = false := decide_eq_false hi0
  rw [show lineP o = sOp ++ [32] ++ Lib.itoa o.kind ++ [32] ++ Lib.itoa o.index ++ [32] ++ hexP o.data by rw [lineP, if_neg (fun h => by have := h.1; omega), if_neg (by omega), if_neg (fun h => hi0 h.2.1)]; simp]
  refine fnIs_of tab_ok Tryz.func85 rfl rfl rfl ?_
  refine sR ?_
  refine reg_new (step_C tab_ok (fun K hk => hk)) rfl ?_
  refine rC rfl ik0 ?_
  refine nS ?_
  refine wc_seq ?_
  refine sR ?_
  refine rC rfl ik0 ?_
  refine rQ rfl (load_box tab_ok rfl rfl ⟨_, rfl, rfl⟩ rfl) ?_
  iterate 2 refine rC rfl ik0 ?_
  iterate 4 refine reg_skip rfl rfl (by assumption) rfl rfl ?_
  refine rQ rfl (pick_F tab_ok rfl (by assumption) rfl) ?_
  refine nS ?_
  refine wc_false rfl rfl ?_
  refine wc_skip ?_
  refine seq_n ?_
  refine wc_seq ?_
  refine sR ?_
  refine rC rfl ik0 ?_
  refine rQ rfl (load_box tab_ok rfl rfl ⟨_, rfl, rfl⟩ rfl) ?_
  refine rC rfl ik0 ?_
  refine nS ?_
  refine wc_false rfl (by assumption) ?_
  refine wc_skip ?_
  refine seq_n ?_
  refine wc_seq ?_
  refine sR ?_
  refine rC rfl ik0 ?_
  refine rQ rfl (load_box tab_ok rfl rfl ⟨_, rfl, rfl⟩ rfl) ?_
  iterate 2 refine rC rfl ik0 ?_
  refine reg_on rfl rfl (by assumption) ?_
  refine rC rfl ik0 ?_
  refine reg_on rfl rfl (by assumption) ?_
  refine rQ rfl (load_box tab_ok rfl rfl ⟨_, rfl, rfl⟩ rfl) ?_
  refine reg_on rfl rfl (by assumption) ?_
  refine rC rfl ik0 ?_
  refine rQ rfl (pick_T tab_ok rfl (by assumption) rfl) ?_
  refine rC rfl ik0 ?_
  iterate 4 refine reg_skip rfl rfl (by assumption) rfl rfl ?_
  refine rQ rfl (pick_F tab_ok rfl (by assumption) rfl) ?_
  refine nS ?_
  refine wc_false rfl rfl ?_
  refine wc_skip ?_
  refine seq_n ?_
  refine wc_seq ?_
  refine wc_draw (by kernel_rfl) ?_
  refine dreg_q [1] [64] rfl (step_C tab_ok (fun K hk => hk)) ?_
  refine dreg_q [42] [64] rfl (load_box tab_ok rfl rfl ⟨_, rfl, rfl⟩ rfl) ?_
  refine dreg_q [43] [] rfl (conv_int (m := o.kind) tab_ok rfl rfl rfl hwk) ?_
  refine dreg_q [44] [] rfl (call_r (number_is _ k0 k1) rfl rfl (arg_e arg_nil) (.inl rfl) (fun _ => rfl)) ?_
  refine dreg_q [45] [] rfl (add_str (a := sOp ++ [32]) (b := Lib.itoa o.kind) rfl rfl (by simp [sOp]; omega) rfl) ?_
  refine dreg_q [46] [] rfl (add_str (a := sOp ++ [32] ++ Lib.itoa o.kind) (b := [32]) rfl rfl (by simp [sOp]; omega) rfl) ?_
  refine dreg_q [1] [64] rfl (step_C tab_ok (fun K hk => hk)) ?_
  refine dreg_q [48] [64] rfl (load_box tab_ok rfl rfl ⟨_, rfl, rfl⟩ rfl) ?_
  refine dreg_q [49] [] rfl (call_r (number_is _ h0 h1) rfl rfl (arg_e arg_nil) (.inl rfl) (fun _ => rfl)) ?_
  refine dreg_q [47, 50] [] rfl (add_str (a := sOp ++ [32] ++ Lib.itoa o.kind ++ [32]) (b := Lib.itoa o.index) rfl rfl (by simp [sOp]; omega) rfl) ?_
  refine dreg_q [51] [] rfl (add_str (a := sOp ++ [32] ++ Lib.itoa o.kind ++ [32] ++ Lib.itoa o.index) (b := [32]) rfl rfl (by simp [sOp]; omega) rfl) ?_
  refine dreg_q [1] [64] rfl (step_C tab_ok (fun K hk => hk)) ?_
  refine dreg_q [53] [64] rfl (load_box tab_ok rfl rfl ⟨_, rfl, rfl⟩ rfl) ?_
  refine dreg_q [54] [] rfl (call_r (rhex_is o.data hL) rfl rfl (arg_e arg_nil) (.inl rfl) (fun _ => rfl)) ?_
  refine dreg_q [52, 55] [] rfl (add_str (a := sOp ++ [32] ++ Lib.itoa o.kind ++ [32] ++ Lib.itoa o.index ++ [32]) (b := hexP o.data) rfl rfl (by simp [sOp]; omega) rfl) ?_
  refine dreg_q [56] [] rfl (step_C tab_ok (fun K hk => hk)) ?_
  refine dreg_end (by kernel_rfl) ?_
  refine seq_n ?_
  refine wc_ret ?_
  exact ⟨trivial, [], .of rfl rfl rfl rfl rfl ⟨⟨_, rfl, AVLe.of_eq rfl⟩, rfl, trivial⟩ trivial⟩
theorem rline_op4 (o : POp) (hok : o.Ok) (hL : o.data.length ≤ 1000000000) (hk : o.kind = 3) (hi0 : o.index = 0) (hd0 : ¬ o.data = []) : FnIs Tryz.prog 85 [.d (encPOp o)] [] (.d (strD (lineP o))) [] := by
  obtain ⟨⟨kk0, kk1⟩, h0, h1⟩ := hok
  have k0 : -9223372036854775808 ≤ o.kind := by omega
  have k1 : o.kind ≤ 9223372036854775807 := by omega
  have hwk : IntKind.i64.wrap o.kind = o.kind := wrap_i64 (by omega) (by omega)
  have l1 := itoa_len h0 h1
  have l2 := itoa_len k0 k1
  have l3 := hexP_len o.data
  have hk1 : decide (o.kind = 1) = false := decide_eq_false (by omega)
  have hk2 : decide (o.kind = 2) = false := decide_eq_false (by omega)
  have hk3 : decide (o.kind = 3) = true := decide_eq_true (by omega)
  have hi : decide (o.index = 0) = true := decide_eq_true hi0
  have hd := len0_iff o.data false (decide_eq_false hd0)
  rw [show lineP o = sOp ++ [32] ++ Lib.itoa o.kind ++ [32] ++ Lib.itoa o.index ++ [32] ++ hexP o.data by rw [lineP, if_neg (fun h => by have := h.1; omega), if_neg (by omega), if_neg (fun h => hd0 h.2.2)]; simp]
  refine fnIs_of tab_ok Tryz.func85 rfl rfl rfl ?_
  refine sR ?_
  refine reg_new (step_C tab_ok (fun K hk => hk)) rfl ?_
  refine rC rfl ik0 ?_
  refine nS ?_
  refine wc_seq ?_
  refine sR ?_
  refine rC rfl ik0 ?_
  refine rQ rfl (load_box tab_ok rfl rfl ⟨_, rfl, rfl⟩ rfl) ?_
  iterate 2 refine rC rfl ik0 ?_
  iterate 4 refine reg_skip rfl rfl (by assumption) rfl rfl ?_
  refine rQ rfl (pick_F tab_ok rfl (by assumption) rfl) ?_
  refine nS ?_
  refine wc_false rfl rfl ?_
  refine wc_skip ?_
  refine seq_n ?_
  refine wc_seq ?_
  refine sR ?_
  refine rC rfl ik0 ?_
  refine rQ rfl (load_box tab_ok rfl rfl ⟨_, rfl, rfl⟩ rfl) ?_
  refine rC rfl ik0 ?_
  refine nS ?_
  refine wc_false rfl (by assumption) ?_
  refine wc_skip ?_
  refine seq_n ?_
  refine wc_seq ?_
  refine sR ?_
  refine rC rfl ik0 ?_
  refine rQ rfl (load_box tab_ok rfl rfl ⟨_, rfl, rfl⟩ rfl) ?_
  iterate 2 refine rC rfl ik0 ?_
  refine reg_on rfl rfl (by assumption) ?_
  refine rC rfl ik0 ?_
  refine reg_on rfl rfl (by assumption) ?_
  refine rQ rfl (load_box tab_ok rfl rfl ⟨_, rfl, rfl⟩ rfl) ?_
  refine reg_on rfl rfl (by assumption) ?_
  refine rC rfl ik0 ?_
  refine rQ rfl (pick_T tab_ok rfl (by assumption) rfl) ?_
  refine rC rfl ik0 ?_
  refine reg_on rfl rfl (by assumption) ?_
  refine rC rfl ik0 ?_
  refine reg_on rfl rfl (by assumption) ?_
  refine rQ rfl (load_box tab_ok rfl rfl ⟨_, rfl, rfl⟩ rfl) ?_
  refine reg_on rfl rfl (by assumption) ?_
  refine rQ rfl (len_arr tab_ok rfl rfl) ?_
  refine reg_on rfl rfl (by assumption) ?_
  refine rC rfl ik0 ?_
  refine rQ rfl (pick_T tab_ok rfl (by assumption) rfl) ?_
  refine nS ?_
  refine wc_false rfl (by assumption) ?_
  refine wc_skip ?_
  refine seq_n ?_
  refine wc_seq ?_
  refine wc_draw (by kernel_rfl) ?_
  refine dreg_q [1] [64] rfl (step_C tab_ok (fun K hk => hk)) ?_
  refine dreg_q [42] [64] rfl (load_box tab_ok rfl rfl ⟨_, rfl, rfl⟩ rfl) ?_
  refine dreg_q [43] [] rfl (conv_int (m := o.kind) tab_ok rfl rfl rfl hwk) ?_
  refine dreg_q [44] [] rfl (call_r (number_is _ k0 k1) rfl rfl (arg_e arg_nil) (.inl rfl) (fun _ => rfl)) ?_
  refine dreg_q [45] [] rfl (add_str (a := sOp ++ [32]) (b := Lib.itoa o.kind) rfl rfl (by simp [sOp]; omega) rfl) ?_
  refine dreg_q [46] [] rfl (add_str (a := sOp ++ [32] ++ Lib.itoa o.kind) (b := [32]) rfl rfl (by simp [sOp]; omega) rfl) ?_
  refine dreg_q [1] [64] rfl (step_C tab_ok (fun K hk => hk)) ?_
  refine dreg_q [48] [64] rfl (load_box tab_ok rfl rfl ⟨_, rfl, rfl⟩ rfl) ?_
  refine dreg_q [49] [] rfl (call_r (number_is _ h0 h1) rfl rfl (arg_e arg_nil) (.inl rfl) (fun _ => rfl)) ?_
  refine dreg_q [47, 50] [] rfl (add_str (a := sOp ++ [32] ++ Lib.itoa o.kind ++ [32]) (b := Lib.itoa o.index) rfl rfl (by simp [sOp]; omega) rfl) ?_
  refine dreg_q [51] [] rfl (add_str (a := sOp ++ [32] ++ Lib.itoa o.kind ++ [32] ++ Lib.itoa o.index) (b := [32]) rfl rfl (by simp [sOp]; omega) rfl) ?_
  refine dreg_q [1] [64] rfl (step_C tab_ok (fun K hk => hk)) ?_
  refine dreg_q [53] [64] rfl (load_box tab_ok rfl rfl ⟨_, rfl, rfl⟩ rfl) ?_
  refine dreg_q [54] [] rfl (call_r (rhex_is o.data hL) rfl rfl (arg_e arg_nil) (.inl rfl) (fun _ => rfl)) ?_
  refine dreg_q [52, 55] [] rfl (add_str (a := sOp ++ [32] ++ Lib.itoa o.kind ++ [32] ++ Lib.itoa o.index ++ [32]) (b := hexP o.data) rfl rfl (by simp [sOp]; omega) rfl) ?_
  refine dreg_q [56] [] rfl (step_C tab_ok (fun K hk => hk)) ?_
  refine dreg_end (by kernel_rfl) ?_
  refine seq_n ?_
  refine wc_ret ?_
  exact ⟨trivial, [], .of rfl rfl rfl rfl rfl ⟨⟨_, rfl, AVLe.of_eq rfl⟩, rfl, trivial⟩ trivial⟩
theorem rline_is (o : POp) (hok : o.Ok) (hL : o.data.length ≤ 1000000000) : FnIs Tryz.prog 85 [.d (encPOp o)] [] (.d (strD (lineP o))) [] := by
  by_cases k1 : o.kind = 1
  · by_cases hd : o.data = []
    · exact rline_read o hok hL k1 hd
    · exact rline_op1 o hok hL k1 hd
  by_cases k2 : o.kind = 2
  · exact rline_write o hok hL k2
  by_cases k3 : o.kind = 3
  · by_cases hi : o.index = 0
    · by_cases hd : o.data = []
      · exact rline_flush o hok hL k3 hi hd
      · exact rline_op4 o hok hL k3 hi hd
    · exact rline_op3 o hok hL k3 hi
  · exact rline_op2 o hok hL k1 k2 k3
end Go.Proofs.YtmojbghcngdkpaaGreatDoor

namespace Go.Proofs.YtmojbghcngdkpaaGreatDoor
open Go.Eng Go.Plain
set_option maxHeartbeats 4000000
set_option maxRecDepth 20000
attribute [local irreducible] WC RegS RegD SeqQ BlkQ ScoQ RegK CutK Sat SatN FnIs LoopQ StepIs OpIs
theorem rtext_is (l : List (List POp)) (hok : OkL l) (hL : l.length ≤ 1000000) (hP : ∀ p ∈ l, p.length ≤ 1000000 ∧ ∀ o ∈ p, o.data.length ≤ 1000000000) (hT : (textP l).length ≤ 1000000000000) : FnIs Tryz.prog 39 [.d (encPL l)] [] (.d (strD (textP l))) [] := by
  refine fnIs_of tab_ok Tryz.func39 rfl rfl rfl ?_
  refine sR ?_
  refine rC rfl ik0 ?_
  refine nR ?_
  refine rC rfl ik0 ?_
  refine nS ?_
  refine wc_seq ?_
  refine sR ?_
  refine rC rfl ik0 ?_
  refine nS ?_
  refine wc_block ?_
  refine wc_inv (fun i : Nat => ⟨[(4, .int .i64 i), (3, .d (strD (textP (l.take i)))), (0, .d (encPL l))], [], 72, Tryz.f39.ntmps, 64⟩) (fun i => i ≤ l.length) (fun i => l.length - i) 0 [] (Nat.zero_le _)
    (.of rfl rfl rfl rfl rfl ⟨⟨_, rfl, .refl _⟩, rfl, ⟨_, rfl, .refl _⟩, rfl, ⟨_, rfl, .refl _⟩, rfl, trivial⟩ trivial) ?_
  intro i hi
  refine wc_of ?_
  refine wc_seq ?_
  refine sR ?_
  iterate 2 refine rC rfl ik0 ?_
  refine rQ rfl (len_arr tab_ok rfl rfl) ?_
  refine rC rfl ik0 ?_
  refine nS ?_
  refine wc_cond rfl (fun h3 => ?_) (fun h3 => ?_)
  · have hlt : i < l.length := by have := of_decide_eq_true h3; omega
    obtain ⟨p, hp⟩ : ∃ p, l[i]? = some p := ⟨_, List.getElem?_eq_getElem hlt⟩
    have hp' : l[((i : Int)).toNat]? = some p := by rw [Int.toNat_natCast]; exact hp
    have hpm := List.mem_of_getElem? hp
    have hpB := (hP p hpm).1
    have hz := partT_le (j := 0) hp
    have hpz := partT_zero l i p
    have hlc : (textP (l.take i)).length + (sClient ++ [10]).length ≤ 9223372036854775807 := by rw [hpz, List.length_append] at hz; omega
    refine wc_skip ?_
    refine seq_n ?_
    refine wc_seq ?_
    refine wc_block ?_
    refine sR ?_
    refine rC rfl ik0 ?_
    refine rQ rfl (add_str (a := textP (l.take i)) (b := sClient ++ [10]) rfl rfl hlc rfl) ?_
    refine rC rfl ik0 ?_
    refine nR ?_
    refine rC rfl ik0 ?_
    refine nS ?_
    refine wc_block ?_
    refine wc_inv (fun j : Nat => ⟨[(5, .int .i64 j), (4, .int .i64 i), (3, .d (strD (partT l i p j))), (0, .d (encPL l))], [], 72, Tryz.f39.ntmps, 64⟩) (fun j => j ≤ p.length) (fun j => p.length - j) 0 [] (Nat.zero_le _)
      (.of rfl rfl rfl rfl rfl ⟨⟨_, rfl, .refl _⟩, rfl, ⟨_, rfl, .refl _⟩, rfl, ⟨_, rfl, AVLe.of_eq (by rw [hpz]; rfl)⟩, rfl, ⟨_, rfl, .refl _⟩, rfl, trivial⟩ trivial) ?_
    intro j hj
    refine wc_of ?_
    refine wc_seq ?_
    refine sR ?_
    iterate 3 refine rC rfl ik0 ?_
    refine rQ rfl (index_arr tab_ok rfl rfl rfl rfl rfl (by omega) (by assumption)) ?_
    refine rQ rfl (load_i tab_ok rfl rfl) ?_
    refine rQ rfl (len_arr tab_ok rfl rfl) ?_
    refine rC rfl ik0 ?_
    refine nS ?_
    refine wc_cond rfl (fun h4 => ?_) (fun h4 => ?_)
    · have hjl : j < p.length := by have := of_decide_eq_true h4; omega
      obtain ⟨o, ho⟩ : ∃ o, p[j]? = some o := ⟨_, List.getElem?_eq_getElem hjl⟩
      have ho' : p[((j : Int)).toNat]? = some o := by rw [Int.toNat_natCast]; exact ho
      have hom := List.mem_of_getElem? ho
      have hline := rline_is o (hok p hpm o hom) ((hP p hpm).2 o hom)
      have hgo := partT_go (l := l) (i := i) ho
      have hpl := partT_le (j := j + 1) hp
      rw [← hgo, List.length_append, List.length_append] at hpl
      have hl1 : (partT l i p j).length + (lineP o).length ≤ 9223372036854775807 := by omega
      have hl2 : (partT l i p j ++ lineP o).length + [(10 : UInt8)].length ≤ 9223372036854775807 := by rw [List.length_append]; omega
      have hs : partT l i p (j + 1) = partT l i p j ++ lineP o ++ [10] := by rw [← hgo, List.append_assoc]
      refine wc_skip ?_
      refine seq_n ?_
      refine wc_seq ?_
      refine wc_block ?_
      refine wc_region ?_
      iterate 3 refine rC rfl ik0 ?_
      refine rQ rfl (index_arr tab_ok rfl rfl rfl rfl rfl (by omega) (by assumption)) ?_
      refine rQ rfl (load_i tab_ok rfl rfl) ?_
      refine rC rfl ik0 ?_
      refine rQ rfl (index_arr tab_ok rfl rfl rfl rfl rfl (by omega) (by assumption)) ?_
      refine rQ rfl (load_i tab_ok rfl rfl) ?_
      refine rQ rfl (call_r hline rfl rfl (arg_e arg_nil) (.inl rfl) (fun _ => rfl)) ?_
      refine rQ rfl (add_str (a := partT l i p j) (b := lineP o) rfl rfl hl1 rfl) ?_
      refine rQ rfl (add_str (a := partT l i p j ++ lineP o) (b := [10]) rfl rfl hl2 rfl) ?_
      refine rC rfl ik0 ?_
      refine reg_nil ?_
      refine blk_n ?_
      refine seq_n ?_
      refine wc_region ?_
      refine rC rfl ik0 ?_
      refine rQ rfl (add_int tab_ok rfl rfl (wrap_i64 (by omega) (by omega))) ?_
      refine rC rfl ik0 ?_
      refine reg_nil ?_
      exact loop_n (j + 1) [] hjl (by omega) (.of rfl rfl rfl rfl rfl ⟨⟨_, rfl, .refl _⟩, rfl, ⟨_, rfl, .refl _⟩, rfl, ⟨_, rfl, AVLe.of_eq (by rw [hs]; rfl)⟩, rfl, ⟨_, rfl, .refl _⟩, rfl, trivial⟩ trivial)
    · have he : j = p.length := by have := of_decide_eq_false h4; omega
      subst he
      refine wc_exit ?_
      refine seq_x ?_
      refine loop_x ?_
      refine blk_x ?_
      refine blk_n ?_
      refine seq_n ?_
      refine wc_region ?_
      refine rC rfl ik0 ?_
      refine rQ rfl (add_int tab_ok rfl rfl (wrap_i64 (by omega) (by omega))) ?_
      refine rC rfl ik0 ?_
      refine reg_nil ?_
      exact loop_n (i + 1) [] hlt (by omega) (.of rfl rfl rfl rfl rfl ⟨⟨_, rfl, .refl _⟩, rfl, ⟨_, rfl, AVLe.of_eq (by rw [partT_end hp]; rfl)⟩, rfl, ⟨_, rfl, .refl _⟩, rfl, trivial⟩ trivial)
  · have he : i = l.length := by have := of_decide_eq_false h3; omega
    subst he
    rw [List.take_length]
    refine wc_exit ?_
    refine seq_x ?_
    refine loop_x ?_
    refine blk_x ?_
    refine seq_n ?_
    refine sR ?_
    iterate 2 refine rC rfl ik0 ?_
    refine nS ?_
    refine wc_ret ?_
    exact ⟨trivial, [], .of rfl rfl rfl rfl rfl ⟨⟨_, rfl, AVLe.of_eq rfl⟩, rfl, trivial⟩ trivial⟩
end Go.Proofs.YtmojbghcngdkpaaGreatDoor

namespace Go.Plain
open Go.Eng Go.Lib
end Go.Plain

namespace Go.Proofs.YtmojbghcngdkpaaGreatDoor
open Go.Eng Go.Plain
set_option maxHeartbeats 4000000
set_option maxRecDepth 20000
attribute [local irreducible] WC RegS RegD SeqQ BlkQ ScoQ RegK CutK Sat SatN FnIs LoopQ StepIs OpIs
end Go.Proofs.YtmojbghcngdkpaaGreatDoor

namespace Go.Proofs.YtmojbghcngdkpaaGreatDoor
open Go.Eng Go.Plain
set_option maxHeartbeats 4000000
set_option maxRecDepth 20000
attribute [local irreducible] WC RegS RegD SeqQ BlkQ ScoQ RegK CutK Sat SatN FnIs LoopQ StepIs OpIs
def o1 {α : Type} (o : Option α) : Int := match o with
  | some _ => 1
  | none => 0
abbrev intRes (o : Option Int) : AV := .tup (.acons (.int .i64 (o.getD 0)) (.acons (.int .i64 (o1 o)) .anil))
end Go.Proofs.YtmojbghcngdkpaaGreatDoor

namespace Go.Proofs.YtmojbghcngdkpaaGreatDoor
open Go.Eng Go.Plain
set_option maxHeartbeats 4000000
set_option maxRecDepth 20000
attribute [local irreducible] WC RegS RegD SeqQ BlkQ ScoQ RegK CutK Sat SatN FnIs LoopQ StepIs OpIs
def nV (l : List UInt8) : Nat := l.foldl (fun n c => n * 16 + nibV c) 0
abbrev byR (o : Option (List UInt8)) : AV := .tup (.acons (.d (encB (o.getD []))) (.acons (.int .i64 (o1 o)) .anil))
end Go.Proofs.YtmojbghcngdkpaaGreatDoor

namespace Go.Proofs.YtmojbghcngdkpaaGreatDoor
open Go.Eng Go.Plain
set_option maxHeartbeats 4000000
set_option maxRecDepth 20000
set_option linter.unusedVariables false
set_option linter.unusedSimpArgs false
attribute [local irreducible] WC RegS RegD SeqQ BlkQ ScoQ RegK CutK Sat SatN FnIs LoopQ StepIs OpIs
abbrev readA (o : Option POp) : AV := .tup (.acons (.d (encPOp (o.getD opNil))) (.acons (.int .i64 (o1 o)) .anil))
def finR (s : List UInt8) (o : Option POp) : Option POp := match o with
  | some o => if lineP o = s then some o else none
  | none => none
def op4 (o : Option Int) (x y : List UInt8) : Option POp := match o with
  | some k => Plain.opR k x y
  | none => none
end Go.Proofs.YtmojbghcngdkpaaGreatDoor

namespace Go.Eng
open Go.RowKit Go.Sort
abbrev encI64 (n : Int) : D := .sc (.int .i64 n)
theorem cat_i64 (l : List Int) : cat (fun i => [Value.int .i64 (l.getD i 0)]) l.length = l.map (Value.int .i64) := by
  have key : ∀ n, n ≤ l.length → cat (fun i => [Value.int .i64 (l.getD i 0)]) n = (l.take n).map (Value.int .i64) := by
    intro n
    induction n with
    | zero => intro _; rfl
    | succ n ih =>
      intro hn
      have hlt : n < l.length := by omega
      have e : l.take (n + 1) = l.take n ++ [l[n]] := by rw [List.take_add_one, List.getElem?_eq_getElem hlt]; rfl
      have e2 : l.getD n 0 = l[n] := by rw [List.getD_eq_getElem?_getD, List.getElem?_eq_getElem hlt]; rfl
      rw [cat, ih (by omega), e, List.map_append, e2]
      rfl
  rw [key _ (Nat.le_refl _), List.take_length]
theorem cat_i64' {w : World} {X : Nat → Prop} {f : Nat → List Value} {l : List Int} (hf : ∀ i (h : i < l.length), Enc w X (encI64 l[i]) (f i) ∧ (f i).length = 1) : cat f l.length = l.map (Value.int .i64) := by
  rw [← cat_i64]
  refine cat_congr _ fun i hi => ?_
  obtain ⟨⟨h1, _⟩, _⟩ := hf i hi
  rw [h1, List.getD_eq_getElem?_getD, List.getElem?_eq_getElem hi]
  rfl
theorem put_take {ys : List Int} {cur : Array Value} (h : ys.length ≤ cur.size) : (putCells (Value.int .i64) 0 ys.toArray cur).toList.take ys.length = ys.map (Value.int .i64) := by
  apply List.ext_getElem?
  intro k
  rw [List.getElem?_take]
  by_cases hk : k < ys.length
  · rw [if_pos hk, Array.getElem?_toList, putCells, Array.getElem?_mapIdx, Array.getElem?_eq_getElem (by omega)]
    simp only [Option.map_some, Nat.zero_le, true_and, Nat.zero_add, List.size_toArray, hk, if_true, Nat.sub_zero]
    rw [List.getElem?_map, List.getElem?_eq_getElem hk]
    simp [hk]
  · rw [if_neg hk, List.getElem?_eq_none (by simp; omega)]
variable {P : Program}
/-- A row of ints, changed in place. -/
theorem FnIs.of_calls_ints {f : FuncId} {t : TypeId} {ex : Bool} {xs ys : List Int} {res : AV} {rv : Nat → Nat → Value} (hne : 0 < xs.length) (hl : ys.length = xs.length)
    (hfn : ∃ fn, P.funcs[f]? = some fn ∧ (fn.name == "runtime.NumGoroutine") = false ∧ fn.body.isNone = false)
    (hres : ∀ (σ : Place) (w : World) (X : Nat → Prop) (b c : Nat), σ 0 = some (b, c) → xs.length ≤ c → RelV σ w X res (rv b c)) (hin : res.within (fun r => r < 72))
    (h : ∀ (w : World) (b c : Nat), b < w.heap.size → Holds (Value.int .i64) w b 0 xs.toArray → xs.length ≤ c →
      Calls P f #[.slice (some ⟨b, 0, none⟩) xs.length c] w fun e w' => e = .returned (rv b c) ∧ ∃ n os, w' = grow (putRow (Value.int .i64) (Sort.ahead w n) b 0 ys.toArray) os) :
    FnIs P f [.own 0 0 xs.length 1 none] [(0, .ds t 1 ex encI64 xs)] res [(0, .ds t 1 ex encI64 ys)] := by
  refine ⟨hfn, fun C σ w vs hbs hB hw hσ hro hst => ?_⟩
  have hlen : vs.length = 1 := by have := hst.sz; simpa [inSt] using this
  obtain ⟨v, rfl⟩ : ∃ v, vs = [v] := by
    match vs, hlen with
    | [v], _ => exact ⟨v, rfl⟩
  have hr0 : (inSt [.own 0 0 xs.length 1 none] [(0, Row.ds t 1 ex encI64 xs)]).row 0 = some (Row.ds t 1 ex encI64 xs) := rfl
  obtain ⟨u, hu, hv⟩ := hst.env 0 _ rfl
  simp only [List.getElem?_toArray, List.getElem?_cons_zero, Option.some.injEq] at hu
  subst hu
  have hv : Rel σ w ((inSt [.own 0 0 xs.length 1 none] [(0, Row.ds t 1 ex encI64 xs)]).X C.X0 σ) (.own 0 0 xs.length 1 none) false [v] := by
    unfold RelV at hv
    simpa [AV.isAgg] using hv
  rcases hst.rows 0 _ hr0 with ⟨_, h2⟩ | ⟨b, c, cur, h1, h0, h2, h3, h4, h5, g, hg, h6⟩
  · rw [h2] at hne; exact absurd hne (by decide)
  rcases hv with ⟨h7, _⟩ | ⟨b', c', a, h7, h8, _, _, _, h9⟩
  · rw [h1] at h7; cases h7
  rw [h1] at h7
  cases h7
  obtain rfl := h9 (by omega)
  have hv2 : v = .slice (some ⟨b, 0, none⟩) xs.length c := by simpa using h8
  subst hv2
  have hblt : b < w.heap.size := (Array.getElem?_eq_some_iff.1 h2).1
  rw [Nat.mul_one] at h3 h6
  rw [cat_i64' hg] at h6
  have hH : Holds (Value.int .i64) w b 0 xs.toArray := by
    intro j hj
    simp only [List.size_toArray] at hj
    refine ⟨?_, ?_⟩
    · simp only [World.cell?, h2, Nat.zero_add]
      have := congrArg (fun l => l[j]?) h6
      simp only [List.getElem?_take, if_pos hj, Array.getElem?_toList, List.getElem?_map] at this
      rw [this, List.getElem?_eq_getElem hj]
      simp [hj]
    · simp only [World.frozen?, h2]
      simp
  refine (h w b c hblt hH h4).mono ?_
  rintro e w' ⟨rfl, n, os, rfl⟩
  refine ⟨_, σ, rfl, ?_⟩
  have hnew : (grow (putRow (Value.int .i64) (Sort.ahead w n) b 0 ys.toArray) os).heap[b]? = some (.cells (putCells (Value.int .i64) 0 ys.toArray cur) t (0, 0)) := by
    show ((w.heap.modify b _) ++ os)[b]? = _
    rw [Array.getElem?_append_left (by simpa using hblt), Array.getElem?_modify, if_pos rfl, h2]
    rfl
  have hother : ∀ k, k ≠ b → k < w.heap.size → (grow (putRow (Value.int .i64) (Sort.ahead w n) b 0 ys.toArray) os).heap[k]? = w.heap[k]? := by
    intro k hk hkl
    show ((w.heap.modify b _) ++ os)[k]? = _
    rw [Array.getElem?_append_left (by simpa using hkl), Array.getElem?_modify, if_neg (Ne.symm hk)]
  have hMb : C.M b := by
    rcases hst.high _ _ _ _ hr0 h1 with hh | hh
    · omega
    · exact hh
  have hX : (resSt res [(0, Row.ds t 1 ex encI64 ys)]).X C.X0 σ = (inSt [.own 0 0 xs.length 1 none] [(0, Row.ds t 1 ex encI64 xs)]).X C.X0 σ := by
    funext x
    apply propext
    constructor
    · rintro (hx | ⟨r, row, c', h5, h6⟩)
      · exact .inl hx
      · by_cases e : 0 = r
        · subst e; exact .inr ⟨0, _, c', hr0, h6⟩
        · simp only [resSt, someRows, St.row, lk_cons, if_neg e, lk] at h5; cases h5
    · rintro (hx | ⟨r, row, c', h5, h6⟩)
      · exact .inl hx
      · by_cases e : 0 = r
        · subst e; exact .inr ⟨0, _, c', rfl, h6⟩
        · simp only [inSt, someRows, St.row, lk_cons, if_neg e, lk] at h5; cases h5
  have hbm : BelowM C.B C.M w (grow (putRow (Value.int .i64) (Sort.ahead w n) b 0 ys.toArray) os) := by
    refine ⟨rfl, rfl, rfl, ?_, fun k hk hm => hother k (by rintro rfl; exact hm hMb) (by omega), fun k o ho hb => ?_⟩
    · show w.heap.size ≤ ((w.heap.modify b _) ++ os).size
      simp
    · have hk : k < w.heap.size := (Array.getElem?_eq_some_iff.1 ho).1
      exact (hother k (by rintro rfl; rw [h2] at ho; cases ho; cases hb) hk).trans ho
  exact
    { env := fun i x hi => by
        by_cases e : i = 0
        · subst e
          simp only [resSt, lk_cons, if_pos, Option.some.injEq] at hi
          subst hi
          exact ⟨_, rfl, hres _ _ _ _ _ h1 h4⟩
        · simp only [resSt, lk_cons, if_neg (Ne.symm e), lk] at hi
          cases hi
      envG := fun i x hi => by
        by_cases e : i = 0
        · subst e
          simp only [resSt, lk_cons, if_pos, Option.some.injEq] at hi
          subst hi
          exact hin
        · simp only [resSt, lk_cons, if_neg (Ne.symm e), lk] at hi
          cases hi
      rows := fun r row hr => by
        by_cases e : 0 = r
        · subst e
          simp only [resSt, someRows, St.row, lk_cons, if_pos, Option.bind_some, id, Option.some.injEq] at hr
          subst hr
          refine .inr ⟨b, c, _, h1, fun hex => by rw [hl]; exact h0 hex, hnew, by rw [Nat.mul_one]; simpa [putCells] using h3, by omega, h5, fun i => [.int .i64 (ys.getD i 0)], fun i hi => ⟨⟨?_, rfl⟩, rfl⟩, ?_⟩
          · show [Value.int .i64 (ys.getD i 0)] = _
            rw [List.getD_eq_getElem?_getD, List.getElem?_eq_getElem hi]; rfl
          · rw [Nat.mul_one, cat_i64]
            exact put_take (by omega)
        · simp only [resSt, someRows, St.row, lk_cons, if_neg e, lk] at hr; cases hr
      rowsG := fun r row hr => by
        by_cases e : 0 = r
        · subst e
          simp only [resSt, someRows, St.row, lk_cons, if_pos, Option.bind_some, id, Option.some.injEq] at hr
          subst hr
          exact ⟨by decide, trivial⟩
        · simp only [resSt, someRows, St.row, lk_cons, if_neg e, lk] at hr; cases hr
      inj := fun r r' row row' b c c' hr hr' _ _ => by
        by_cases e : 0 = r
        · by_cases e' : 0 = r'
          · omega
          · simp only [resSt, someRows, St.row, lk_cons, if_neg e', lk] at hr'; cases hr'
        · simp only [resSt, someRows, St.row, lk_cons, if_neg e, lk] at hr; cases hr
      high := fun r row b' c' hr hs => by
        by_cases e : 0 = r
        · subst e
          exact hst.high _ _ _ _ hr0 hs
        · simp only [resSt, someRows, St.row, lk_cons, if_neg e, lk] at hr; cases hr
      size := by
        show C.B ≤ ((w.heap.modify b _) ++ os).size
        simp; omega
      below := by rw [hw]; exact hbm
      defers := trivial
      sz := rfl
      x0 := hst.x0
      agree := fun r _ => by rw [hσ]
      baseG := fun r hr => by rw [hbs] at hr; show r < 72; omega
      bs := by rw [hbs]; rfl
      rok := fun l hl => by rw [hro] at hl; cases hl
      glob := hst.glob }
end Go.Eng

namespace Go.Eng
open Go.RowKit
variable {P : Program} {f : FuncId} {avs avs' : List AV} {h0 : List (Nat × Row)} {res : AV}
/-- What is known at the beginning is known otherwise, too. -/
def Tells (avs : List AV) (h0 : List (Nat × Row)) (avs' : List AV) (h0' : List (Nat × Row)) : Prop :=
  ∀ (C : Ctx) (G : Nat → Prop) (σ : Place) (w : World) (a : Act), StRel C G (inSt avs h0) σ w a → StRel C G (inSt avs' h0') σ w a
/-- The result hangs on no memory. -/
def FreeRes (res : AV) : Prop := (∀ (σ σ' : Place) (w w' : World) (X X' : Nat → Prop) (v : Value), RelV σ w X res v → RelV σ' w' X' res v) ∧ ∀ G : Nat → Prop, res.within G
end Go.Eng

namespace Go.Eng
open Go.RowKit
theorem RowLe.ds_take {t : TypeId} {s m : Nat} {ex : Bool} {α : Type} {enc : α → D} {xs : List α} : RowLe (.ds t s ex enc xs) (.ds t s false enc (xs.take m)) := by
  intro σ w X r h
  rcases h with ⟨h1, rfl⟩ | ⟨b, c, cur, h1, _, h2, h3, h4, h5, f, hf, h6⟩
  · exact .inl ⟨h1, by simp⟩
  · have hle : (xs.take m).length ≤ xs.length := by rw [List.length_take]; omega
    refine .inr ⟨b, c, cur, h1, (fun h => by cases h), h2, h3, by omega, h5, f, fun i hi => ?_, ?_⟩
    · have hi' : i < xs.length := by omega
      rw [List.getElem_take]
      exact hf i hi'
    · obtain ⟨k, hk⟩ : ∃ k, xs.length = (xs.take m).length + k := ⟨xs.length - (xs.take m).length, by omega⟩
      have hl := cat_len (xs.take m).length (fun i hi => (hf i (by omega)).2)
      have h7 := congrArg (List.take ((xs.take m).length * s)) h6
      rw [List.take_take, Nat.min_eq_left (Nat.mul_le_mul_right s hle)] at h7
      rw [h7]
      conv => lhs; rw [hk, cat_add]
      rw [List.take_append_of_le_length (by rw [hl]; exact Nat.le_refl _), List.take_of_length_le (by rw [hl]; exact Nat.le_refl _)]
theorem Frz.row_le {r : Nat} {row row' : Row} {a a' : AV} (h : RowLe row row') (hf : Frz r row' a a') : Frz r row a a' :=
  ⟨hf.1, hf.2.1, hf.2.2.1, fun σ w X X' hx hn hr cs hc => hf.2.2.2 σ w X X' hx hn (h σ w X r hr) cs hc⟩
end Go.Eng

namespace Go.Proofs.YtmojbghcngdkpaaGreatDoor
open Go.Eng Go.Plain
set_option maxHeartbeats 4000000
set_option maxRecDepth 20000
set_option linter.unusedVariables false
attribute [local irreducible] WC RegS RegD SeqQ BlkQ ScoQ RegK CutK Sat SatN FnIs LoopQ StepIs OpIs
abbrev rpR (x : List (List POp) × Nat × Int) : AV := .tup (.acons (.d (encPL x.1)) (.acons (.int .i64 (x.2.1 : Nat)) (.acons (.int .i64 x.2.2) .anil)))
@[reducible] noncomputable def qSt (s : List UInt8) (W : List (List UInt8)) : Option (List (List POp) × List POp) × Nat → St
  | (none, i) => ⟨[(7, .int .i64 i), (6, .d (.sc nil_)), (5, .d (.arr 1 strD W))], [], 72, Tryz.f50.ntmps, 64⟩
  | (some (l, p), i) => ⟨[(7, .int .i64 i), (6, .own 65 0 (l.length + 1) 1 none), (5, .d (.arr 1 strD W))], [(65, some (rowL p l (l.length + 1) 66)), (66, some (rowP p))], 72, Tryz.f50.ntmps, 64⟩
def QInv (W : List (List UInt8)) : Option (List (List POp) × List POp) × Nat → Prop
  | (q, i) => i ≤ W.length ∧ parseR (W.drop i) i (toL q) = parseR W 0 [] ∧ chkP (toL q) = 0
end Go.Proofs.YtmojbghcngdkpaaGreatDoor

namespace Go.Plain
open Go.Lib
theorem asc_unique : ∀ (a b : List Int), a.Pairwise (· < ·) → b.Pairwise (· < ·) → (∀ x, x ∈ a ↔ x ∈ b) → a = b
  | [], [], _, _, _ => rfl
  | [], y :: b, _, _, h => absurd ((h y).2 (List.mem_cons_self ..)) (by simp)
  | x :: a, [], _, _, h => absurd ((h x).1 (List.mem_cons_self ..)) (by simp)
  | x :: a, y :: b, ha, hb, h => by
    have ha' := List.pairwise_cons.1 ha
    have hb' := List.pairwise_cons.1 hb
    have h1 := (h x).1 (List.mem_cons_self ..)
    have h2 := (h y).2 (List.mem_cons_self ..)
    have hxy : x = y := by
      rcases List.mem_cons.1 h1 with e | e
      · exact e
      · rcases List.mem_cons.1 h2 with e2 | e2
        · exact e2.symm
        · have h3 := ha'.1 y e2
          have h4 := hb'.1 x e
          omega
    subst hxy
    congr 1
    refine asc_unique a b ha'.2 hb'.2 fun z => ⟨fun hz => ?_, fun hz => ?_⟩
    · have h5 := ha'.1 z hz
      rcases List.mem_cons.1 ((h z).1 (List.mem_cons_of_mem _ hz)) with e | e
      · omega
      · exact e
    · have h5 := hb'.1 z hz
      rcases List.mem_cons.1 ((h z).2 (List.mem_cons_of_mem _ hz)) with e | e
      · omega
      · exact e
theorem compact_asc {d : Array Int} (hs : ∀ i j, i < j → j < d.size → d[i]! ≤ d[j]!) : ∀ m, m ≤ d.size →
    (compactUpTo d m).Pairwise (· < ·) ∧ (∀ x, x ∈ compactUpTo d m ↔ ∃ j, j < m ∧ d[j]! = x) := by
  intro m
  induction m with
  | zero => intro _; exact ⟨List.Pairwise.nil, fun x => by simp [compactUpTo]⟩
  | succ m ih =>
    intro hm
    obtain ⟨h1, h2⟩ := ih (by omega)
    rw [compactUpTo_succ]
    by_cases hk : keeps d m = true
    · rw [if_pos hk]
      have hlt : ∀ x, x ∈ compactUpTo d m → x < d[m]! := by
        intro x hx
        obtain ⟨j, hj, rfl⟩ := (h2 x).1 hx
        rcases of_decide_eq_true hk with h0 | h0
        · omega
        · have h3 := hs (m - 1) m (by omega) (by omega)
          rcases Nat.lt_or_ge j (m - 1) with h4 | h4
          · have := hs j (m - 1) h4 (by omega); omega
          · have : j = m - 1 := by omega
            subst this; omega
      refine ⟨List.pairwise_append.2 ⟨h1, List.pairwise_singleton _ _, fun x hx y hy => ?_⟩, fun x => ?_⟩
      · rw [List.mem_singleton.1 hy]; exact hlt x hx
      · rw [List.mem_append, h2, List.mem_singleton]
        constructor
        · rintro (⟨j, hj, e⟩ | e)
          · exact ⟨j, by omega, e⟩
          · exact ⟨m, by omega, e.symm⟩
        · rintro ⟨j, hj, e⟩
          rcases Nat.lt_or_ge j m with h4 | h4
          · exact .inl ⟨j, h4, e⟩
          · have : j = m := by omega
            subst this; exact .inr e.symm
    · rw [if_neg hk, List.append_nil]
      have hk' : ¬ (m = 0 ∨ d[m]! ≠ d[m - 1]!) := fun h => hk (decide_eq_true h)
      have hm0 : m ≠ 0 := fun e => hk' (.inl e)
      have he : d[m]! = d[m - 1]! := Classical.byContradiction fun e => hk' (.inr e)
      refine ⟨h1, fun x => ?_⟩
      rw [h2]
      constructor
      · rintro ⟨j, hj, e⟩; exact ⟨j, by omega, e⟩
      · rintro ⟨j, hj, e⟩
        rcases Nat.lt_or_ge j m with h4 | h4
        · exact ⟨j, h4, e⟩
        · have : j = m := by omega
          subst this; exact ⟨j - 1, by omega, by rw [← he]; exact e⟩
abbrev sortI (l : List Int) : List Int := l.mergeSort fun x y => decide (x ≤ y)
theorem sort_len (l : List Int) : (sortI l).length = l.length := List.length_mergeSort _
theorem sort_mem (l : List Int) (x : Int) : x ∈ sortI l ↔ x ∈ l := List.mem_mergeSort
theorem sort_asc (l : List Int) : (sortI l).Pairwise (· ≤ ·) := by
  have := List.pairwise_mergeSort (le := fun x y : Int => decide (x ≤ y)) (fun a b c h1 h2 => by have := of_decide_eq_true h1; have := of_decide_eq_true h2; exact decide_eq_true (by omega)) (fun a b => by
    by_cases h : a ≤ b
    · simp [h]
    · have : b ≤ a := by omega
      simp [this]) l
  exact this.imp fun h => of_decide_eq_true h
theorem csort (l : List Int) : (compact (sortI l)).Pairwise (· < ·) ∧ ∀ x, x ∈ compact (sortI l) ↔ x ∈ l := by
  have h := compact_asc (d := (sortI l).toArray) (fun i j hij hj => by
    simp only [List.size_toArray] at hj
    have := List.pairwise_iff_getElem.1 (sort_asc l) i j (by omega) hj hij
    simp only [List.getElem!_toArray]
    rw [getElem!_pos _ i (by omega), getElem!_pos _ j hj]
    exact this) (sortI l).length (Nat.le_refl _)
  refine ⟨h.1, fun x => ?_⟩
  rw [show compact (sortI l) = compactUpTo (sortI l).toArray (sortI l).length from rfl, h.2, ← sort_mem l x]
  constructor
  · rintro ⟨j, hj, e⟩
    simp only [List.getElem!_toArray] at e
    rw [getElem!_pos _ j hj] at e
    rw [← e]; exact List.getElem_mem _
  · intro hx
    obtain ⟨j, hj, e⟩ := List.getElem_of_mem hx
    refine ⟨j, hj, ?_⟩
    simp only [List.getElem!_toArray]
    rw [getElem!_pos _ j hj]
    exact e
theorem compact_len (l : List Int) : (compact l).length ≤ l.length := by
  unfold compact compactUpTo
  rw [List.length_map]
  refine Nat.le_trans (List.length_filter_le _ _) ?_
  simp
end Go.Plain

namespace Go.Proofs.YtmojbghcngdkpaaGreatDoor
open Go.Eng Go.Plain Go.Lib
def insL (n : Int) : List Int → List Int
  | [] => [n]
  | x :: l => if n ≤ x then n :: (x :: l).filter (fun y => decide (y ≠ n)) else x :: insL n l
theorem wfold_true (n : Int) : ∀ (l o : List Int), l.foldl (wStep n) (o, true) = (o ++ l.filter (fun y => decide (y ≠ n)), true)
  | [], o => by simp
  | x :: l, o => by
    rw [List.foldl_cons]
    by_cases h : x = n
    · rw [show wStep n (o, true) x = (o, true) by simp [wStep, h], wfold_true n l o]
      simp [h]
    · rw [show wStep n (o, true) x = (o ++ [x], true) by simp [wStep, h], wfold_true n l (o ++ [x])]
      simp [h]
def wOut (n : Int) (s : List Int × Bool) : List Int := if s.2 = true then s.1 else s.1 ++ [n]
theorem wfold_false (n : Int) : ∀ (l o : List Int), wOut n (l.foldl (wStep n) (o, false)) = o ++ insL n l
  | [], o => by simp [insL, wOut]
  | x :: l, o => by
    rw [List.foldl_cons]
    by_cases h : n ≤ x
    · by_cases h2 : x = n
      · rw [show wStep n (o, false) x = (o ++ [n], true) by simp [wStep, h, h2], wfold_true n l (o ++ [n])]
        simp [wOut, insL, h2]
      · rw [show wStep n (o, false) x = (o ++ [n] ++ [x], true) by simp [wStep, h, h2], wfold_true n l (o ++ [n] ++ [x])]
        simp [wOut, insL, h, h2]
    · have h2 : x ≠ n := by omega
      rw [show wStep n (o, false) x = (o ++ [x], false) by simp [wStep, h, h2], wfold_false n l (o ++ [x])]
      simp [insL, h]
theorem withL_ins (l : List Int) (n : Int) : withL l n = insL n l := by
  have h := wfold_false n l []
  rw [List.nil_append] at h
  rw [← h]
  cases hb : (l.foldl (wStep n) ([], false)).2 <;> simp [withL, wPre, wOut, hb]
theorem insL_mem (n x : Int) : ∀ (l : List Int), x ∈ insL n l ↔ x = n ∨ x ∈ l
  | [] => by simp [insL]
  | y :: l => by
    rw [insL]
    by_cases h : n ≤ y
    · rw [if_pos h, List.mem_cons, List.mem_filter]
      by_cases e : x = n
      · simp [e]
      · simp [e]
    · rw [if_neg h, List.mem_cons, insL_mem n x l, List.mem_cons]
      constructor
      · rintro (h | h | h)
        · exact .inr (.inl h)
        · exact .inl h
        · exact .inr (.inr h)
      · rintro (h | h | h)
        · exact .inr (.inl h)
        · exact .inl h
        · exact .inr (.inr h)
theorem insL_asc (n : Int) : ∀ (l : List Int), l.Pairwise (· < ·) → (insL n l).Pairwise (· < ·)
  | [], _ => by simp [insL]
  | y :: l, hl => by
    have hl' := List.pairwise_cons.1 hl
    rw [insL]
    by_cases h : n ≤ y
    · rw [if_pos h]
      refine List.pairwise_cons.2 ⟨fun x hx => ?_, hl.filter _⟩
      obtain ⟨h1, h2⟩ := List.mem_filter.1 hx
      have h2 := of_decide_eq_true h2
      rcases List.mem_cons.1 h1 with e | e
      · omega
      · have := hl'.1 x e; omega
    · rw [if_neg h]
      refine List.pairwise_cons.2 ⟨fun x hx => ?_, insL_asc n l hl'.2⟩
      rcases (insL_mem n x l).1 hx with e | e
      · omega
      · exact hl'.1 x e
def idxL (b : Int) (l : List POp) : List Int := (l.filter (touB b)).map POp.index
theorem tou_fold (b : Int) : ∀ (l : List POp) (a : List Int), a.Pairwise (· < ·) → (l.foldl (touS b) a).Pairwise (· < ·) ∧ ∀ x, x ∈ l.foldl (touS b) a ↔ x ∈ a ∨ x ∈ idxL b l
  | [], a, ha => ⟨ha, fun x => by simp [idxL]⟩
  | o :: l, a, ha => by
    rw [List.foldl_cons]
    by_cases h : touB b o = true
    · rw [show touS b a o = insL o.index a by rw [touS, if_pos h, withL_ins]]
      obtain ⟨h1, h2⟩ := tou_fold b l _ (insL_asc o.index a ha)
      refine ⟨h1, fun x => ?_⟩
      rw [h2, insL_mem, show idxL b (o :: l) = o.index :: idxL b l by simp [idxL, h], List.mem_cons]
      constructor
      · rintro ((h | h) | h)
        · exact .inr (.inl h)
        · exact .inl h
        · exact .inr (.inr h)
      · rintro (h | h | h)
        · exact .inl (.inr h)
        · exact .inl (.inl h)
        · exact .inr h
    · rw [show touS b a o = a by rw [touS, if_neg h]]
      obtain ⟨h1, h2⟩ := tou_fold b l a ha
      refine ⟨h1, fun x => ?_⟩
      rw [h2, show idxL b (o :: l) = idxL b l by simp [idxL, h]]
theorem touL_sort (b : Int) (l : List POp) : compact (sortI (idxL b l)) = touL b l := by
  obtain ⟨h1, h2⟩ := tou_fold b l [] List.Pairwise.nil
  obtain ⟨h3, h4⟩ := csort (idxL b l)
  refine asc_unique _ _ h3 h1 fun x => ?_
  rw [h4, show (x ∈ touL b l) = (x ∈ l.foldl (touS b) []) from rfl, h2]
  simp
theorem idxL_snoc (b : Int) (l : List POp) (o : POp) : idxL b (l ++ [o]) = if touB b o = true then idxL b l ++ [o.index] else idxL b l := by
  by_cases h : touB b o = true <;> simp [idxL, h]
theorem idxL_len (b : Int) (l : List POp) : (idxL b l).length ≤ l.length := by
  rw [idxL, List.length_map]
  exact List.length_filter_le _ _
end Go.Proofs.YtmojbghcngdkpaaGreatDoor

namespace Go.Proofs.YtmojbghcngdkpaaGreatDoor
open Go.Eng Go.Plain Go.RowKit
set_option maxHeartbeats 4000000
set_option maxRecDepth 20000
attribute [local irreducible] WC RegS RegD SeqQ BlkQ ScoQ RegK CutK Sat SatN FnIs LoopQ StepIs OpIs
theorem tup_nil (σ : Eng.Place) (w : World) (X : Nat → Prop) : RelV σ w X (.tup .anil) (.tuple #[]) := by
  unfold RelV
  simp only [AV.isAgg]
  exact ⟨[], rfl, rfl⟩
theorem sort_is (l : List Int) (h : 0 < l.length) (hl : l.length ≤ 100000) : FnIs Tryz.prog 86 [.own 0 0 l.length 1 none] [(0, rowI l)] (.tup .anil) [(0, rowI (sortI l))] :=
  .of_calls_ints (rv := fun _ _ => .tuple #[]) h (sort_len l) ⟨_, Tryz.func86, by kernel_rfl, by kernel_rfl⟩ (fun σ w X b c _ _ => tup_nil σ w X) trivial fun w b c hb hH hc => by
    refine (Tryz.slices_Sort_int b 0 c l w hH hb (by omega)).mono ?_
    rintro e w' ⟨h1, h2⟩
    exact ⟨h1, h2⟩
theorem compact_own (l : List Int) (h : 0 < l.length) (hl : l.length ≤ 100000) : FnIs Tryz.prog 89 [.own 0 0 l.length 1 none] [(0, rowI l)] (.own 0 0 (Lib.compact l).length 1 none) [(0, rowI (Lib.compact l ++ List.replicate (l.length - (Lib.compact l).length) 0))] :=
  .of_calls_ints (rv := fun b c => .slice (some ⟨b, 0, none⟩) (Lib.compact l).length c) h (by have := compact_len l; simp; omega) ⟨_, Tryz.func89, by kernel_rfl, by kernel_rfl⟩ (fun σ w X b c hs hc => by
    have := compact_len l
    unfold RelV
    simp only [AV.isAgg, Bool.false_eq_true, if_false]
    exact .inr ⟨b, c, ⟨b, 0, none⟩, hs, by simp, by omega, by simp, by simp; omega, fun _ => by simp⟩) (by show (0 : Nat) < 72; decide) fun w b c hb hH hc => by
    refine (Tryz.slices_Compact_int b 0 c l w hH (by omega) hc).mono ?_
    rintro e w' ⟨h1, q, h2⟩
    exact ⟨h1, q, #[], by rw [h2]; simp [Sort.grow_empty]⟩
theorem compact_is (l : List Int) (h : 0 < l.length) (hl : l.length ≤ 100000) : FnIs Tryz.prog 89 [.own 0 0 l.length 1 none] [(0, rowI l)] (.d (.arr 1 i6 (Lib.compact l))) [] :=
  (compact_own l h hl).freeze_out 0 _ rfl (Frz.row_le (row' := rowI (Lib.compact l)) (fun σ w X r hr => by
    have := RowLe.ds_take (m := (Lib.compact l).length) σ w X r hr
    rwa [List.take_left'] at this
    rfl) (Frz.own rfl)) trivial
theorem len64_0 : FnIs Tryz.prog 154 [.int .u64 0] [] (.int .i64 0) [] :=
  .of_calls1 rfl ⟨_, Tryz.func154, by kernel_rfl, by kernel_rfl⟩ fun σ w X vs ha hg => by
    rw [ha.one]
    refine (Tryz.bits_Len64 0 w (by decide) (by decide)).mono ?_
    rintro e w' ⟨rfl, rfl⟩
    exact ⟨rfl, Below.refl _ _⟩
theorem len_0 : FnIs Tryz.prog 125 [.int .u64 0] [] (.int .i64 0) [] := by
  refine fnIs_of tab_ok Tryz.func125 rfl rfl rfl ?_
  refine sR ?_
  refine rC rfl ik0 ?_
  refine nS ?_
  refine wc_seq ?_
  refine wc_false rfl rfl ?_
  refine wc_skip ?_
  refine seq_n ?_
  refine sR ?_
  refine rC rfl ik0 ?_
  refine rQ rfl (call_r len64_0 rfl rfl (arg_e arg_nil) (.inl rfl) (fun _ => rfl)) ?_
  refine rC rfl ik0 ?_
  refine nS ?_
  refine wc_ret ?_
  exact ⟨trivial, [], .of rfl rfl rfl rfl rfl ⟨⟨_, rfl, AVLe.of_eq rfl⟩, rfl, trivial⟩ trivial⟩
theorem ins_nil : FnIs Tryz.prog 144 [.d (.sc nil_), .int .i64 0, .int .i64 0] [] (.tup .anil) [] := by
  refine fnIs_of tab_ok Tryz.func144 rfl rfl rfl ?_
  refine sR ?_
  refine rC rfl ik0 ?_
  refine rQ rfl (add_int tab_ok rfl rfl (wrap_i64 (by omega) (by omega))) ?_
  refine rC rfl ik0 ?_
  refine nS ?_
  refine wc_block ?_
  refine wc_once ?_
  refine wc_seq ?_
  refine sR ?_
  iterate 3 refine rC rfl ik0 ?_
  refine nS ?_
  refine wc_false rfl rfl ?_
  refine wc_exit ?_
  refine seq_x ?_
  refine loop_x ?_
  refine blk_x ?_
  exact ⟨trivial, [], .of rfl rfl rfl rfl rfl ⟨⟨_, rfl, AVLe.of_eq rfl⟩, rfl, trivial⟩ trivial⟩
theorem pdq_nil : FnIs Tryz.prog 124 [.d (.sc nil_), .int .i64 0, .int .i64 0, .int .i64 0] [] (.tup .anil) [] := by
  refine fnIs_of tab_ok Tryz.func124 rfl rfl rfl ?_
  refine sR ?_
  refine rC rfl ik0 ?_
  refine nR ?_
  refine rC rfl ik0 ?_
  refine nS ?_
  refine wc_block ?_
  refine wc_once ?_
  refine wc_block ?_
  refine sR ?_
  iterate 2 refine rC rfl ik0 ?_
  refine rQ rfl (sub_int tab_ok rfl rfl (wrap_i64 (by omega) (by omega))) ?_
  refine rC rfl ik0 ?_
  refine nS ?_
  refine wc_seq ?_
  refine sR ?_
  iterate 2 refine rC rfl ik0 ?_
  refine nS ?_
  refine wc_true rfl rfl ?_
  refine sR ?_
  iterate 3 refine rC rfl ik0 ?_
  refine rQ rfl (call_r ins_nil rfl rfl (arg_e (arg_e (arg_e arg_nil))) (.inl rfl) (fun _ => rfl)) ?_
  refine nS ?_
  refine wc_ret ?_
  refine seq_r ?_
  refine blk_r ?_
  refine loop_r ?_
  refine blk_r ?_
  exact ⟨trivial, [], .of rfl rfl rfl rfl rfl ⟨⟨_, rfl, AVLe.of_eq rfl⟩, rfl, trivial⟩ trivial⟩
theorem sort_nil : FnIs Tryz.prog 86 [.d (.sc nil_)] [] (.tup .anil) [] := by
  refine fnIs_of tab_ok Tryz.func86 rfl rfl rfl ?_
  refine sR ?_
  refine rC rfl ik0 ?_
  refine rQ rfl (len_nil tab_ok rfl rfl) ?_
  refine rC rfl ik0 ?_
  refine nS ?_
  refine wc_region ?_
  iterate 3 refine rC rfl ik0 ?_
  refine rQ rfl (conv_int tab_ok rfl rfl rfl rfl) ?_
  refine rQ rfl (call_r len_0 rfl rfl (arg_e arg_nil) (.inl rfl) (fun _ => rfl)) ?_
  refine rQ rfl (call_r pdq_nil rfl rfl (arg_e (arg_e (arg_e (arg_e arg_nil)))) (.inl rfl) (fun _ => rfl)) ?_
  refine reg_nil ?_
  exact ⟨trivial, [], .of rfl rfl rfl rfl rfl ⟨⟨_, rfl, AVLe.of_eq rfl⟩, rfl, trivial⟩ trivial⟩
theorem compact_nil : FnIs Tryz.prog 89 [.d (.sc nil_)] [] (.d (.sc nil_)) [] :=
  .of_calls1 rfl ⟨_, Tryz.func89, by kernel_rfl, by kernel_rfl⟩ fun σ w X vs ha hg => by
    rw [ha.one]
    refine (Tryz.slices_Compact_int_empty none 0 w).mono ?_
    rintro e w' ⟨rfl, rfl⟩
    exact ⟨rfl, Below.refl _ _⟩
theorem clonei_ne (l : List Int) (hp : 0 < l.length) (hlen : l.length ≤ 1048576) : FnIs Tryz.prog 88 [.d (.arr 1 i6 l)] [] (.own 64 0 l.length 1 none) [(64, rowI l)] := by
  refine fnIs_of tab_ok Tryz.func88 rfl rfl rfl ?_
  refine sR ?_
  refine rC rfl ik0 ?_
  refine nS ?_
  refine wc_seq ?_
  refine sR ?_
  refine rC rfl ik0 ?_
  refine rQ rfl (eql_nil tab_ok rfl rfl rfl hp) ?_
  refine nS ?_
  refine wc_false rfl rfl ?_
  refine wc_skip ?_
  refine seq_n ?_
  refine sR ?_
  refine rQ rfl (build_empty tab_ok rfl rfl) ?_
  refine rC rfl ik0 ?_
  refine reg_new (append_empty_arr tab_ok rfl rfl rfl rfl rfl (.inl rfl) rfl hp hlen rfl) rfl ?_
  refine rC rfl ik0 ?_
  refine nS ?_
  refine wc_ret ?_
  exact ⟨trivial, [(64, some 104)], .of rfl rfl rfl rfl rfl ⟨⟨_, rfl, AVLe.of_eq rfl⟩, rfl, trivial⟩ ⟨⟨rfl, rfl, _, rfl, .refl _⟩, trivial⟩⟩
theorem clonei_is (l : List Int) (hp : 0 < l.length) (hlen : l.length ≤ 1048576) : FnIs Tryz.prog 88 [.d (.arr 1 i6 l)] [] (.d (.arr 1 i6 l)) [] := (clonei_ne l hp hlen).freeze_out 64 _ rfl (Frz.own rfl) trivial
theorem clonei_nil : FnIs Tryz.prog 88 [.d (.sc nil_)] [] (.d (.sc nil_)) [] := by
  refine fnIs_of tab_ok Tryz.func88 rfl rfl rfl ?_
  refine sR ?_
  refine rC rfl ik0 ?_
  refine nS ?_
  refine wc_seq ?_
  refine sR ?_
  refine rC rfl ik0 ?_
  refine rQ rfl (eql_nn tab_ok rfl rfl rfl) ?_
  refine nS ?_
  refine wc_true rfl rfl ?_
  refine sR ?_
  refine rC rfl ik0 ?_
  refine nS ?_
  refine wc_ret ?_
  refine seq_r ?_
  exact ⟨trivial, [], .of rfl rfl rfl rfl rfl ⟨⟨_, rfl, AVLe.of_eq rfl⟩, rfl, trivial⟩ trivial⟩
theorem clipi_is (l : List Int) : FnIs Tryz.prog 87 [.d (.arr 1 i6 l)] [] (.d (.arx 1 i6 l)) [] := by
  refine fnIs_of tab_ok Tryz.func87 rfl rfl rfl ?_
  refine sR ?_
  refine rC rfl ik0 ?_
  refine nR ?_
  iterate 2 refine rC rfl ik0 ?_
  refine rQ rfl (len_arr tab_ok rfl rfl) ?_
  refine rC rfl ik0 ?_
  refine rQ rfl (len_arr tab_ok rfl rfl) ?_
  refine rQ rfl (slice_clip_arr tab_ok rfl rfl rfl rfl rfl) ?_
  refine rC rfl ik0 ?_
  refine nS ?_
  refine wc_ret ?_
  exact ⟨trivial, [], .of rfl rfl rfl rfl rfl ⟨⟨_, rfl, AVLe.of_eq rfl⟩, rfl, trivial⟩ trivial⟩
end Go.Proofs.YtmojbghcngdkpaaGreatDoor
