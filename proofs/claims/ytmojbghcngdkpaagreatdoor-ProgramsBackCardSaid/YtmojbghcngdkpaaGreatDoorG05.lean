/- Texts of the proof: P20, P21, P22, P23, P24, P25, P26, P27, P28, PY, P29, P30, Eng78, P31, P32, P33, P34, PZ, P35, P36, P37, P42, Eng80, Eng81, Eng82, P43, PM, PN, P40, P41, P44, P45, P46, Eng83, Eng84, P47a, P47, P48, PO, JP, JQ. -/
import Derived.Test.YtmojbghcngdkpaaGreatDoorG04
import Derived.Sort.Row
import Derived.Sort.Grow
import Derived.Lib.SlicesCompact
import Derived.Test.YtmojbghcngdkpaaGreatDoorG02
import Derived.Test.YtmojbghcngdkpaaGreatDoorRows
import Derived.ProofKit
import Derived.LaidMore
import Derived.OpenShut
import Derived.Stop.Joined
import Derived.HandedShaped
import Derived.Lay
import Derived.SevenTiedAt

set_option linter.unusedVariables false
set_option linter.unusedSimpArgs false
set_option linter.unusedSectionVars false

namespace Go.Proofs.YtmojbghcngdkpaaGreatDoor
open Go.Eng Go.Plain
set_option maxHeartbeats 4000000
set_option maxRecDepth 20000
attribute [local irreducible] WC RegS RegD SeqQ BlkQ ScoQ RegK CutK Sat SatN FnIs LoopQ StepIs OpIs
/-- The operations ahead of operation j of program i. -/
def preO (l : List (List POp)) (i : Nat) (p : List POp) (j : Nat) : List POp := (l.take i).flatten ++ p.take j
theorem preO_go {l : List (List POp)} {i j : Nat} {p : List POp} {o : POp} (ho : p[j]? = some o) : preO l i p (j + 1) = preO l i p j ++ [o] := by
  rw [preO, preO, List.take_add_one, ho]
  simp
theorem preO_end {l : List (List POp)} {i : Nat} {p : List POp} (hp : l[i]? = some p) : preO l i p p.length = (l.take (i + 1)).flatten := by
  rw [preO, List.take_length, List.take_add_one, hp]
  simp
theorem preO_zero (l : List (List POp)) (i : Nat) (p : List POp) : preO l i p 0 = (l.take i).flatten := by simp [preO]
theorem take_flat_le (l : List (List POp)) (i : Nat) : (l.take i).flatten.length ≤ l.flatten.length := by
  have := congrArg List.length (congrArg List.flatten (List.take_append_drop i l))
  rw [List.flatten_append, List.length_append] at this
  omega
theorem preO_le {l : List (List POp)} {i j : Nat} {p : List POp} (hp : l[i]? = some p) : (preO l i p j).length ≤ l.flatten.length := by
  have h1 := take_flat_le l (i + 1)
  rw [← preO_end hp] at h1
  have h2 : (p.take j).length ≤ p.length := by rw [List.length_take]; omega
  simp only [preO, List.length_append, List.take_length] at h1 ⊢
  omega
def cK (k : Int) (l : List POp) : Nat := l.countP fun o => decide (o.kind = k)
def cO (l : List POp) : Nat := l.countP fun o => !decide (o.kind = 1) && !decide (o.kind = 2) && !decide (o.kind = 3)
theorem cK_le (k : Int) (l : List POp) : cK k l ≤ l.length := List.countP_le_length
theorem cO_le (l : List POp) : cO l ≤ l.length := List.countP_le_length
theorem cK_yes {k : Int} {l : List POp} {o : POp} (h : o.kind = k) : cK k (l ++ [o]) = cK k l + 1 := by simp [cK, h]
theorem cK_no {k : Int} {l : List POp} {o : POp} (h : ¬ o.kind = k) : cK k (l ++ [o]) = cK k l := by simp [cK, h]
theorem cO_yes {l : List POp} {o : POp} (h1 : ¬ o.kind = 1) (h2 : ¬ o.kind = 2) (h3 : ¬ o.kind = 3) : cO (l ++ [o]) = cO l + 1 := by simp [cO, h1, h2, h3]
theorem cO_no {l : List POp} {o : POp} (h : o.kind = 1 ∨ o.kind = 2 ∨ o.kind = 3) : cO (l ++ [o]) = cO l := by
  simp only [cO, List.countP_append, List.countP_cons, List.countP_nil]
  rcases h with h | h | h <;> simp [h]
theorem count_is (l : List (List POp)) (hL : l.length ≤ 1000000) (hF : l.flatten.length ≤ 1000000) : FnIs Tryz.prog 42 [.d (encPL l)] [] (.tup (.acons (.int .i64 (cK 1 l.flatten)) (.acons (.int .i64 (cK 2 l.flatten)) (.acons (.int .i64 (cK 3 l.flatten)) (.acons (.int .i64 (cO l.flatten)) .anil))))) [] := by
  refine fnIs_of tab_ok Tryz.func42 rfl rfl rfl ?_
  refine sR ?_
  iterate 4 refine rC rfl ik0 ?_
  refine nS ?_
  refine wc_seq ?_
  refine sR ?_
  refine rC rfl ik0 ?_
  refine rQ rfl (len_arr tab_ok rfl rfl) ?_
  refine rC rfl ik0 ?_
  refine nS ?_
  refine wc_block ?_
  refine wc_inv (fun i : Nat => ⟨[(12, .int .i64 i), (11, .int .i64 l.length), (10, .d (encPL l)), (2, .int .i64 (cK 1 (l.take i).flatten)), (3, .int .i64 (cK 2 (l.take i).flatten)), (4, .int .i64 (cK 3 (l.take i).flatten)), (5, .int .i64 (cO (l.take i).flatten))], [], 72, Tryz.f42.ntmps, 64⟩) (fun i => i ≤ l.length) (fun i => l.length - i) 0 [] (Nat.zero_le _)
    (.of rfl rfl rfl rfl rfl ⟨⟨_, rfl, .refl _⟩, rfl, ⟨_, rfl, .refl _⟩, rfl, ⟨_, rfl, .refl _⟩, rfl, ⟨_, rfl, .refl _⟩, rfl, ⟨_, rfl, .refl _⟩, rfl, ⟨_, rfl, .refl _⟩, rfl, ⟨_, rfl, .refl _⟩, rfl, trivial⟩ trivial) ?_
  intro i hi
  refine wc_of ?_
  refine sR ?_
  refine rC rfl ik0 ?_
  refine nS ?_
  refine wc_seq ?_
  refine wc_cond rfl (fun h3 => ?_) (fun h3 => ?_)
  · have hlt : i < l.length := by have := of_decide_eq_true h3; omega
    obtain ⟨p, hp⟩ : ∃ p, l[i]? = some p := ⟨_, List.getElem?_eq_getElem hlt⟩
    have hp' : l[((i : Int)).toNat]? = some p := by rw [Int.toNat_natCast]; exact hp
    have hpF : p.length ≤ 1000000 := by
      have h1 := preO_le (j := p.length) hp
      rw [preO, List.take_length, List.length_append] at h1
      omega
    rw [← preO_zero l i p]
    refine wc_skip ?_
    refine seq_n ?_
    refine wc_seq ?_
    refine wc_block ?_
    refine sR ?_
    refine rQ rfl (index_arr tab_ok rfl rfl rfl rfl rfl (by omega) (by assumption)) ?_
    refine rQ rfl (load_i tab_ok rfl rfl) ?_
    refine rC rfl ik0 ?_
    refine nR ?_
    refine rC rfl ik0 ?_
    refine rQ rfl (len_arr tab_ok rfl rfl) ?_
    refine rC rfl ik0 ?_
    refine nS ?_
    refine wc_block ?_
    refine wc_inv (fun j : Nat => ⟨[(18, .int .i64 j), (17, .int .i64 p.length), (16, .d (encP p)), (12, .int .i64 i), (11, .int .i64 l.length), (10, .d (encPL l)), (2, .int .i64 (cK 1 (preO l i p j))), (3, .int .i64 (cK 2 (preO l i p j))), (4, .int .i64 (cK 3 (preO l i p j))), (5, .int .i64 (cO (preO l i p j)))], [], 72, Tryz.f42.ntmps, 64⟩) (fun j => j ≤ p.length) (fun j => p.length - j) 0 [] (Nat.zero_le _)
      (.of rfl rfl rfl rfl rfl ⟨⟨_, rfl, .refl _⟩, rfl, ⟨_, rfl, .refl _⟩, rfl, ⟨_, rfl, .refl _⟩, rfl, ⟨_, rfl, .refl _⟩, rfl, ⟨_, rfl, .refl _⟩, rfl, ⟨_, rfl, .refl _⟩, rfl, ⟨_, rfl, .refl _⟩, rfl, ⟨_, rfl, .refl _⟩, rfl, ⟨_, rfl, .refl _⟩, rfl, ⟨_, rfl, .refl _⟩, rfl, trivial⟩ trivial) ?_
    intro j hj
    refine wc_of ?_
    refine sR ?_
    refine rC rfl ik0 ?_
    refine nS ?_
    refine wc_seq ?_
    refine wc_cond rfl (fun h4 => ?_) (fun h4 => ?_)
    · have hjl : j < p.length := by have := of_decide_eq_true h4; omega
      obtain ⟨o, ho⟩ : ∃ o, p[j]? = some o := ⟨_, List.getElem?_eq_getElem hjl⟩
      have ho' : p[((j : Int)).toNat]? = some o := by rw [Int.toNat_natCast]; exact ho
      have hgo := preO_go (l := l) (i := i) ho
      have hle := preO_le (j := j) hp
      have q1 := cK_le 1 (preO l i p j)
      have q2 := cK_le 2 (preO l i p j)
      have q3 := cK_le 3 (preO l i p j)
      have q4 := cO_le (preO l i p j)
      by_cases k1 : o.kind = 1
      · have d1 := decide_eq_true k1
        have e1 := cK_yes (l := preO l i p j) k1
        have e2 := cK_no (k := 2) (l := preO l i p j) (o := o) (by omega)
        have e3 := cK_no (k := 3) (l := preO l i p j) (o := o) (by omega)
        have e4 := cO_no (l := preO l i p j) (o := o) (.inl k1)
        rw [← hgo] at e1 e2 e3 e4
        refine wc_skip ?_
        refine seq_n ?_
        refine wc_seq ?_
        refine wc_block ?_
        refine sR ?_
        refine rQ rfl (index_arr tab_ok rfl rfl rfl rfl rfl (by omega) (by assumption)) ?_
        refine rQ rfl (load_i tab_ok rfl rfl) ?_
        refine reg_new (step_C tab_ok (fun K hk => hk)) rfl ?_
        refine reg_store (store_row tab_ok rfl rfl rfl ⟨_, ⟨rfl, rfl, rfl⟩, rfl⟩ rfl) ?_
        refine nR ?_
        refine rC rfl ik0 ?_
        refine rQ rfl (load_box tab_ok rfl rfl ⟨_, rfl, rfl⟩ rfl) ?_
        refine nS ?_
        refine wc_block ?_
        refine sR ?_
        iterate 2 refine rC rfl ik0 ?_
        refine nS ?_
        refine wc_true rfl (by assumption) ?_
        refine wc_region ?_
        refine rC rfl ik0 ?_
        refine rQ rfl (add_int tab_ok rfl rfl (wrap_i64 (by omega) (by omega))) ?_
        refine rC rfl ik0 ?_
        refine reg_nil ?_
        iterate 2 refine blk_n ?_
        refine seq_n ?_
        refine wc_region ?_
        refine rQ rfl (add_int tab_ok rfl rfl (wrap_i64 (by omega) (by omega))) ?_
        refine rC rfl ik0 ?_
        refine reg_nil ?_
        exact loop_n (j + 1) [] hjl (by omega) (.of rfl rfl rfl rfl rfl ⟨⟨_, rfl, .refl _⟩, rfl, ⟨_, rfl, .refl _⟩, rfl, ⟨_, rfl, .refl _⟩, rfl, ⟨_, rfl, .refl _⟩, rfl, ⟨_, rfl, .refl _⟩, rfl, ⟨_, rfl, .refl _⟩, rfl, ⟨_, rfl, AVLe.of_eq (by rw [e1]; rfl)⟩, rfl, ⟨_, rfl, AVLe.of_eq (by rw [e2]; rfl)⟩, rfl, ⟨_, rfl, AVLe.of_eq (by rw [e3]; rfl)⟩, rfl, ⟨_, rfl, AVLe.of_eq (by rw [e4]; rfl)⟩, rfl, trivial⟩ trivial)
      by_cases k2 : o.kind = 2
      · have d1 := decide_eq_false k1
        have d2 := decide_eq_true k2
        have e1 := cK_no (k := 1) (l := preO l i p j) (o := o) (by omega)
        have e2 := cK_yes (l := preO l i p j) k2
        have e3 := cK_no (k := 3) (l := preO l i p j) (o := o) (by omega)
        have e4 := cO_no (l := preO l i p j) (o := o) (.inr (.inl k2))
        rw [← hgo] at e1 e2 e3 e4
        refine wc_skip ?_
        refine seq_n ?_
        refine wc_seq ?_
        refine wc_block ?_
        refine sR ?_
        refine rQ rfl (index_arr tab_ok rfl rfl rfl rfl rfl (by omega) (by assumption)) ?_
        refine rQ rfl (load_i tab_ok rfl rfl) ?_
        refine reg_new (step_C tab_ok (fun K hk => hk)) rfl ?_
        refine reg_store (store_row tab_ok rfl rfl rfl ⟨_, ⟨rfl, rfl, rfl⟩, rfl⟩ rfl) ?_
        refine nR ?_
        refine rC rfl ik0 ?_
        refine rQ rfl (load_box tab_ok rfl rfl ⟨_, rfl, rfl⟩ rfl) ?_
        refine nS ?_
        refine wc_block ?_
        refine sR ?_
        iterate 2 refine rC rfl ik0 ?_
        refine nS ?_
        refine wc_false rfl (by assumption) ?_
        refine sR ?_
        iterate 2 refine rC rfl ik0 ?_
        refine nS ?_
        refine wc_true rfl (by assumption) ?_
        refine wc_region ?_
        refine rC rfl ik0 ?_
        refine rQ rfl (add_int tab_ok rfl rfl (wrap_i64 (by omega) (by omega))) ?_
        refine rC rfl ik0 ?_
        refine reg_nil ?_
        iterate 2 refine blk_n ?_
        refine seq_n ?_
        refine wc_region ?_
        refine rQ rfl (add_int tab_ok rfl rfl (wrap_i64 (by omega) (by omega))) ?_
        refine rC rfl ik0 ?_
        refine reg_nil ?_
        exact loop_n (j + 1) [] hjl (by omega) (.of rfl rfl rfl rfl rfl ⟨⟨_, rfl, .refl _⟩, rfl, ⟨_, rfl, .refl _⟩, rfl, ⟨_, rfl, .refl _⟩, rfl, ⟨_, rfl, .refl _⟩, rfl, ⟨_, rfl, .refl _⟩, rfl, ⟨_, rfl, .refl _⟩, rfl, ⟨_, rfl, AVLe.of_eq (by rw [e1]; rfl)⟩, rfl, ⟨_, rfl, AVLe.of_eq (by rw [e2]; rfl)⟩, rfl, ⟨_, rfl, AVLe.of_eq (by rw [e3]; rfl)⟩, rfl, ⟨_, rfl, AVLe.of_eq (by rw [e4]; rfl)⟩, rfl, trivial⟩ trivial)
      by_cases k3 : o.kind = 3
      · have d1 := decide_eq_false k1
        have d2 := decide_eq_false k2
        have d3 := decide_eq_true k3
        have e1 := cK_no (k := 1) (l := preO l i p j) (o := o) (by omega)
        have e2 := cK_no (k := 2) (l := preO l i p j) (o := o) (by omega)
        have e3 := cK_yes (l := preO l i p j) k3
        have e4 := cO_no (l := preO l i p j) (o := o) (.inr (.inr k3))
        rw [← hgo] at e1 e2 e3 e4
        refine wc_skip ?_
        refine seq_n ?_
        refine wc_seq ?_
        refine wc_block ?_
        refine sR ?_
        refine rQ rfl (index_arr tab_ok rfl rfl rfl rfl rfl (by omega) (by assumption)) ?_
        refine rQ rfl (load_i tab_ok rfl rfl) ?_
        refine reg_new (step_C tab_ok (fun K hk => hk)) rfl ?_
        refine reg_store (store_row tab_ok rfl rfl rfl ⟨_, ⟨rfl, rfl, rfl⟩, rfl⟩ rfl) ?_
        refine nR ?_
        refine rC rfl ik0 ?_
        refine rQ rfl (load_box tab_ok rfl rfl ⟨_, rfl, rfl⟩ rfl) ?_
        refine nS ?_
        refine wc_block ?_
        refine sR ?_
        iterate 2 refine rC rfl ik0 ?_
        refine nS ?_
        refine wc_false rfl (by assumption) ?_
        refine sR ?_
        iterate 2 refine rC rfl ik0 ?_
        refine nS ?_
        refine wc_false rfl (by assumption) ?_
        refine sR ?_
        iterate 2 refine rC rfl ik0 ?_
        refine nS ?_
        refine wc_true rfl (by assumption) ?_
        refine wc_region ?_
        refine rC rfl ik0 ?_
        refine rQ rfl (add_int tab_ok rfl rfl (wrap_i64 (by omega) (by omega))) ?_
        refine rC rfl ik0 ?_
        refine reg_nil ?_
        iterate 2 refine blk_n ?_
        refine seq_n ?_
        refine wc_region ?_
        refine rQ rfl (add_int tab_ok rfl rfl (wrap_i64 (by omega) (by omega))) ?_
        refine rC rfl ik0 ?_
        refine reg_nil ?_
        exact loop_n (j + 1) [] hjl (by omega) (.of rfl rfl rfl rfl rfl ⟨⟨_, rfl, .refl _⟩, rfl, ⟨_, rfl, .refl _⟩, rfl, ⟨_, rfl, .refl _⟩, rfl, ⟨_, rfl, .refl _⟩, rfl, ⟨_, rfl, .refl _⟩, rfl, ⟨_, rfl, .refl _⟩, rfl, ⟨_, rfl, AVLe.of_eq (by rw [e1]; rfl)⟩, rfl, ⟨_, rfl, AVLe.of_eq (by rw [e2]; rfl)⟩, rfl, ⟨_, rfl, AVLe.of_eq (by rw [e3]; rfl)⟩, rfl, ⟨_, rfl, AVLe.of_eq (by rw [e4]; rfl)⟩, rfl, trivial⟩ trivial)
      · have d1 := decide_eq_false k1
        have d2 := decide_eq_false k2
        have d3 := decide_eq_false k3
        have e1 := cK_no (k := 1) (l := preO l i p j) (o := o) k1
        have e2 := cK_no (k := 2) (l := preO l i p j) (o := o) k2
        have e3 := cK_no (k := 3) (l := preO l i p j) (o := o) k3
        have e4 := cO_yes (l := preO l i p j) k1 k2 k3
        rw [← hgo] at e1 e2 e3 e4
        refine wc_skip ?_
        refine seq_n ?_
        refine wc_seq ?_
        refine wc_block ?_
        refine sR ?_
        refine rQ rfl (index_arr tab_ok rfl rfl rfl rfl rfl (by omega) (by assumption)) ?_
        refine rQ rfl (load_i tab_ok rfl rfl) ?_
        refine reg_new (step_C tab_ok (fun K hk => hk)) rfl ?_
        refine reg_store (store_row tab_ok rfl rfl rfl ⟨_, ⟨rfl, rfl, rfl⟩, rfl⟩ rfl) ?_
        refine nR ?_
        refine rC rfl ik0 ?_
        refine rQ rfl (load_box tab_ok rfl rfl ⟨_, rfl, rfl⟩ rfl) ?_
        refine nS ?_
        refine wc_block ?_
        refine sR ?_
        iterate 2 refine rC rfl ik0 ?_
        refine nS ?_
        refine wc_false rfl (by assumption) ?_
        refine sR ?_
        iterate 2 refine rC rfl ik0 ?_
        refine nS ?_
        refine wc_false rfl (by assumption) ?_
        refine sR ?_
        iterate 2 refine rC rfl ik0 ?_
        refine nS ?_
        refine wc_false rfl (by assumption) ?_
        refine wc_region ?_
        refine rC rfl ik0 ?_
        refine rQ rfl (add_int tab_ok rfl rfl (wrap_i64 (by omega) (by omega))) ?_
        refine rC rfl ik0 ?_
        refine reg_nil ?_
        iterate 2 refine blk_n ?_
        refine seq_n ?_
        refine wc_region ?_
        refine rQ rfl (add_int tab_ok rfl rfl (wrap_i64 (by omega) (by omega))) ?_
        refine rC rfl ik0 ?_
        refine reg_nil ?_
        exact loop_n (j + 1) [] hjl (by omega) (.of rfl rfl rfl rfl rfl ⟨⟨_, rfl, .refl _⟩, rfl, ⟨_, rfl, .refl _⟩, rfl, ⟨_, rfl, .refl _⟩, rfl, ⟨_, rfl, .refl _⟩, rfl, ⟨_, rfl, .refl _⟩, rfl, ⟨_, rfl, .refl _⟩, rfl, ⟨_, rfl, AVLe.of_eq (by rw [e1]; rfl)⟩, rfl, ⟨_, rfl, AVLe.of_eq (by rw [e2]; rfl)⟩, rfl, ⟨_, rfl, AVLe.of_eq (by rw [e3]; rfl)⟩, rfl, ⟨_, rfl, AVLe.of_eq (by rw [e4]; rfl)⟩, rfl, trivial⟩ trivial)
    · have he : j = p.length := by have := of_decide_eq_false h4; omega
      subst he
      refine wc_exit ?_
      refine seq_x ?_
      refine loop_x ?_
      refine blk_x ?_
      refine blk_n ?_
      refine seq_n ?_
      refine wc_region ?_
      refine rQ rfl (add_int tab_ok rfl rfl (wrap_i64 (by omega) (by omega))) ?_
      refine rC rfl ik0 ?_
      refine reg_nil ?_
      rw [preO_end hp]
      exact loop_n (i + 1) [] hlt (by omega) (.of rfl rfl rfl rfl rfl ⟨⟨_, rfl, .refl _⟩, rfl, ⟨_, rfl, .refl _⟩, rfl, ⟨_, rfl, .refl _⟩, rfl, ⟨_, rfl, .refl _⟩, rfl, ⟨_, rfl, .refl _⟩, rfl, ⟨_, rfl, .refl _⟩, rfl, ⟨_, rfl, .refl _⟩, rfl, trivial⟩ trivial)
  · have he : i = l.length := by have := of_decide_eq_false h3; omega
    subst he
    rw [List.take_length]
    refine wc_exit ?_
    refine seq_x ?_
    refine loop_x ?_
    refine blk_x ?_
    refine seq_n ?_
    refine sR ?_
    iterate 8 refine rC rfl ik0 ?_
    refine nS ?_
    refine wc_ret ?_
    exact ⟨trivial, [], .of rfl rfl rfl rfl rfl ⟨⟨_, rfl, AVLe.of_eq rfl⟩, rfl, trivial⟩ trivial⟩
end Go.Proofs.YtmojbghcngdkpaaGreatDoor

namespace Go.Proofs.YtmojbghcngdkpaaGreatDoor
open Go.Eng Go.Plain
set_option maxHeartbeats 4000000
set_option maxRecDepth 20000
attribute [local irreducible] WC RegS RegD SeqQ BlkQ ScoQ RegK CutK Sat SatN FnIs LoopQ StepIs OpIs
theorem op_dec (x y : POp) : decide (x = y) = (decide (x.kind = y.kind) && decide (x.index = y.index) && decide (x.data = y.data)) := by
  obtain ⟨a, b, c⟩ := x
  obtain ⟨d, e, f⟩ := y
  by_cases h1 : a = d <;> by_cases h2 : b = e <;> by_cases h3 : c = f <;> simp [h1, h2, h3]
end Go.Proofs.YtmojbghcngdkpaaGreatDoor

namespace Go.Proofs.YtmojbghcngdkpaaGreatDoor
open Go.Eng Go.Plain
set_option maxHeartbeats 4000000
set_option maxRecDepth 20000
attribute [local irreducible] WC RegS RegD SeqQ BlkQ ScoQ RegK CutK Sat SatN FnIs LoopQ StepIs OpIs
abbrev sRow : List (Nat × Row) := [(0, .box 165 (fnA 100))]
end Go.Proofs.YtmojbghcngdkpaaGreatDoor

namespace Go.Proofs.YtmojbghcngdkpaaGreatDoor
open Go.Eng Go.Plain
set_option maxHeartbeats 4000000
set_option maxRecDepth 20000
attribute [local irreducible] WC RegS RegD SeqQ BlkQ ScoQ RegK CutK Sat SatN FnIs LoopQ StepIs OpIs
theorem str_dec (a b : List UInt8) : decide (strOf (byI a) = strOf (byI b)) = decide (a = b) := by rw [strOf_byI, strOf_byI, mkS_dec]
theorem requal_w (x y : POp) (c1 c2 c3 : Bool) (h1 : (!decide (x.kind = y.kind)) = !c1) (h2 : (!decide (x.index = y.index)) = !c2) (h3 : (!decide (strOf (byI x.data) = strOf (byI y.data))) = !c3) : FnIs Tryz.prog 67 [.d (encPOp x), .d (encPOp y)] [] (.d (i6 (if (c1 && c2 && c3) = true then 1 else 0))) [] := by
  refine fnIs_of tab_ok Tryz.func67 rfl rfl rfl ?_
  cases c1 <;> cases c2 <;> cases c3
  · refine wc_seq ?_
    refine wc_region ?_
    iterate 2 refine reg_new (step_C tab_ok (fun K hk => hk)) rfl ?_
    refine rC rfl ik0 ?_
    refine nS ?_
    refine wc_seq ?_
    refine sR ?_
    refine rC rfl ik0 ?_
    refine rQ rfl (load_box tab_ok rfl rfl ⟨_, rfl, rfl⟩ rfl) ?_
    refine rC rfl ik0 ?_
    refine rQ rfl (load_box tab_ok rfl rfl ⟨_, rfl, rfl⟩ rfl) ?_
    iterate 2 refine rC rfl ik0 ?_
    iterate 5 refine reg_skip rfl rfl (by assumption) rfl rfl ?_
    refine rQ rfl (pick_T tab_ok rfl (by assumption) rfl) ?_
    refine rC rfl ik0 ?_
    iterate 7 refine reg_skip rfl rfl rfl rfl rfl ?_
    refine rQ rfl (pick_T tab_ok rfl rfl rfl) ?_
    refine nS ?_
    refine wc_true rfl rfl ?_
    refine sR ?_
    refine rC rfl ik0 ?_
    refine nS ?_
    refine wc_ret ?_
    refine seq_r ?_
    exact ⟨trivial, [], .of rfl rfl rfl rfl rfl ⟨⟨_, rfl, AVLe.of_eq rfl⟩, rfl, trivial⟩ trivial⟩
  · refine wc_seq ?_
    refine wc_region ?_
    iterate 2 refine reg_new (step_C tab_ok (fun K hk => hk)) rfl ?_
    refine rC rfl ik0 ?_
    refine nS ?_
    refine wc_seq ?_
    refine sR ?_
    refine rC rfl ik0 ?_
    refine rQ rfl (load_box tab_ok rfl rfl ⟨_, rfl, rfl⟩ rfl) ?_
    refine rC rfl ik0 ?_
    refine rQ rfl (load_box tab_ok rfl rfl ⟨_, rfl, rfl⟩ rfl) ?_
    iterate 2 refine rC rfl ik0 ?_
    iterate 5 refine reg_skip rfl rfl (by assumption) rfl rfl ?_
    refine rQ rfl (pick_T tab_ok rfl (by assumption) rfl) ?_
    refine rC rfl ik0 ?_
    iterate 7 refine reg_skip rfl rfl rfl rfl rfl ?_
    refine rQ rfl (pick_T tab_ok rfl rfl rfl) ?_
    refine nS ?_
    refine wc_true rfl rfl ?_
    refine sR ?_
    refine rC rfl ik0 ?_
    refine nS ?_
    refine wc_ret ?_
    refine seq_r ?_
    exact ⟨trivial, [], .of rfl rfl rfl rfl rfl ⟨⟨_, rfl, AVLe.of_eq rfl⟩, rfl, trivial⟩ trivial⟩
  · refine wc_seq ?_
    refine wc_region ?_
    iterate 2 refine reg_new (step_C tab_ok (fun K hk => hk)) rfl ?_
    refine rC rfl ik0 ?_
    refine nS ?_
    refine wc_seq ?_
    refine sR ?_
    refine rC rfl ik0 ?_
    refine rQ rfl (load_box tab_ok rfl rfl ⟨_, rfl, rfl⟩ rfl) ?_
    refine rC rfl ik0 ?_
    refine rQ rfl (load_box tab_ok rfl rfl ⟨_, rfl, rfl⟩ rfl) ?_
    iterate 2 refine rC rfl ik0 ?_
    iterate 5 refine reg_skip rfl rfl (by assumption) rfl rfl ?_
    refine rQ rfl (pick_T tab_ok rfl (by assumption) rfl) ?_
    refine rC rfl ik0 ?_
    iterate 7 refine reg_skip rfl rfl rfl rfl rfl ?_
    refine rQ rfl (pick_T tab_ok rfl rfl rfl) ?_
    refine nS ?_
    refine wc_true rfl rfl ?_
    refine sR ?_
    refine rC rfl ik0 ?_
    refine nS ?_
    refine wc_ret ?_
    refine seq_r ?_
    exact ⟨trivial, [], .of rfl rfl rfl rfl rfl ⟨⟨_, rfl, AVLe.of_eq rfl⟩, rfl, trivial⟩ trivial⟩
  · refine wc_seq ?_
    refine wc_region ?_
    iterate 2 refine reg_new (step_C tab_ok (fun K hk => hk)) rfl ?_
    refine rC rfl ik0 ?_
    refine nS ?_
    refine wc_seq ?_
    refine sR ?_
    refine rC rfl ik0 ?_
    refine rQ rfl (load_box tab_ok rfl rfl ⟨_, rfl, rfl⟩ rfl) ?_
    refine rC rfl ik0 ?_
    refine rQ rfl (load_box tab_ok rfl rfl ⟨_, rfl, rfl⟩ rfl) ?_
    iterate 2 refine rC rfl ik0 ?_
    iterate 5 refine reg_skip rfl rfl (by assumption) rfl rfl ?_
    refine rQ rfl (pick_T tab_ok rfl (by assumption) rfl) ?_
    refine rC rfl ik0 ?_
    iterate 7 refine reg_skip rfl rfl rfl rfl rfl ?_
    refine rQ rfl (pick_T tab_ok rfl rfl rfl) ?_
    refine nS ?_
    refine wc_true rfl rfl ?_
    refine sR ?_
    refine rC rfl ik0 ?_
    refine nS ?_
    refine wc_ret ?_
    refine seq_r ?_
    exact ⟨trivial, [], .of rfl rfl rfl rfl rfl ⟨⟨_, rfl, AVLe.of_eq rfl⟩, rfl, trivial⟩ trivial⟩
  · refine wc_seq ?_
    refine wc_region ?_
    iterate 2 refine reg_new (step_C tab_ok (fun K hk => hk)) rfl ?_
    refine rC rfl ik0 ?_
    refine nS ?_
    refine wc_seq ?_
    refine sR ?_
    refine rC rfl ik0 ?_
    refine rQ rfl (load_box tab_ok rfl rfl ⟨_, rfl, rfl⟩ rfl) ?_
    refine rC rfl ik0 ?_
    refine rQ rfl (load_box tab_ok rfl rfl ⟨_, rfl, rfl⟩ rfl) ?_
    iterate 2 refine rC rfl ik0 ?_
    refine reg_on rfl rfl (by assumption) ?_
    refine rC rfl ik0 ?_
    refine reg_on rfl rfl (by assumption) ?_
    refine rQ rfl (load_box tab_ok rfl rfl ⟨_, rfl, rfl⟩ rfl) ?_
    refine reg_on rfl rfl (by assumption) ?_
    refine rC rfl ik0 ?_
    refine reg_on rfl rfl (by assumption) ?_
    refine rQ rfl (load_box tab_ok rfl rfl ⟨_, rfl, rfl⟩ rfl) ?_
    refine reg_on rfl rfl (by assumption) ?_
    refine rC rfl ik0 ?_
    refine rQ rfl (pick_F tab_ok rfl (by assumption) rfl) ?_
    refine rC rfl ik0 ?_
    iterate 7 refine reg_skip rfl rfl (by assumption) rfl rfl ?_
    refine rQ rfl (pick_T tab_ok rfl (by assumption) rfl) ?_
    refine nS ?_
    refine wc_true rfl rfl ?_
    refine sR ?_
    refine rC rfl ik0 ?_
    refine nS ?_
    refine wc_ret ?_
    refine seq_r ?_
    exact ⟨trivial, [], .of rfl rfl rfl rfl rfl ⟨⟨_, rfl, AVLe.of_eq rfl⟩, rfl, trivial⟩ trivial⟩
  · refine wc_seq ?_
    refine wc_region ?_
    iterate 2 refine reg_new (step_C tab_ok (fun K hk => hk)) rfl ?_
    refine rC rfl ik0 ?_
    refine nS ?_
    refine wc_seq ?_
    refine sR ?_
    refine rC rfl ik0 ?_
    refine rQ rfl (load_box tab_ok rfl rfl ⟨_, rfl, rfl⟩ rfl) ?_
    refine rC rfl ik0 ?_
    refine rQ rfl (load_box tab_ok rfl rfl ⟨_, rfl, rfl⟩ rfl) ?_
    iterate 2 refine rC rfl ik0 ?_
    refine reg_on rfl rfl (by assumption) ?_
    refine rC rfl ik0 ?_
    refine reg_on rfl rfl (by assumption) ?_
    refine rQ rfl (load_box tab_ok rfl rfl ⟨_, rfl, rfl⟩ rfl) ?_
    refine reg_on rfl rfl (by assumption) ?_
    refine rC rfl ik0 ?_
    refine reg_on rfl rfl (by assumption) ?_
    refine rQ rfl (load_box tab_ok rfl rfl ⟨_, rfl, rfl⟩ rfl) ?_
    refine reg_on rfl rfl (by assumption) ?_
    refine rC rfl ik0 ?_
    refine rQ rfl (pick_F tab_ok rfl (by assumption) rfl) ?_
    refine rC rfl ik0 ?_
    iterate 7 refine reg_skip rfl rfl (by assumption) rfl rfl ?_
    refine rQ rfl (pick_T tab_ok rfl (by assumption) rfl) ?_
    refine nS ?_
    refine wc_true rfl rfl ?_
    refine sR ?_
    refine rC rfl ik0 ?_
    refine nS ?_
    refine wc_ret ?_
    refine seq_r ?_
    exact ⟨trivial, [], .of rfl rfl rfl rfl rfl ⟨⟨_, rfl, AVLe.of_eq rfl⟩, rfl, trivial⟩ trivial⟩
  · refine wc_seq ?_
    refine wc_region ?_
    iterate 2 refine reg_new (step_C tab_ok (fun K hk => hk)) rfl ?_
    refine rC rfl ik0 ?_
    refine nS ?_
    refine wc_seq ?_
    refine sR ?_
    refine rC rfl ik0 ?_
    refine rQ rfl (load_box tab_ok rfl rfl ⟨_, rfl, rfl⟩ rfl) ?_
    refine rC rfl ik0 ?_
    refine rQ rfl (load_box tab_ok rfl rfl ⟨_, rfl, rfl⟩ rfl) ?_
    iterate 2 refine rC rfl ik0 ?_
    refine reg_on rfl rfl (by assumption) ?_
    refine rC rfl ik0 ?_
    refine reg_on rfl rfl (by assumption) ?_
    refine rQ rfl (load_box tab_ok rfl rfl ⟨_, rfl, rfl⟩ rfl) ?_
    refine reg_on rfl rfl (by assumption) ?_
    refine rC rfl ik0 ?_
    refine reg_on rfl rfl (by assumption) ?_
    refine rQ rfl (load_box tab_ok rfl rfl ⟨_, rfl, rfl⟩ rfl) ?_
    refine reg_on rfl rfl (by assumption) ?_
    refine rC rfl ik0 ?_
    refine rQ rfl (pick_F tab_ok rfl (by assumption) rfl) ?_
    refine rC rfl ik0 ?_
    refine reg_on rfl rfl (by assumption) ?_
    refine rC rfl ik0 ?_
    refine reg_on rfl rfl (by assumption) ?_
    refine rQ rfl (load_box tab_ok rfl rfl ⟨_, rfl, rfl⟩ rfl) ?_
    refine reg_on rfl rfl (by assumption) ?_
    refine rQ rfl (conv_bytes tab_ok rfl rfl rfl rfl) ?_
    refine reg_on rfl rfl (by assumption) ?_
    refine rC rfl ik0 ?_
    refine reg_on rfl rfl (by assumption) ?_
    refine rQ rfl (load_box tab_ok rfl rfl ⟨_, rfl, rfl⟩ rfl) ?_
    refine reg_on rfl rfl (by assumption) ?_
    refine rQ rfl (conv_bytes tab_ok rfl rfl rfl rfl) ?_
    refine reg_on rfl rfl (by assumption) ?_
    refine rQ rfl (neq_str tab_ok rfl rfl rfl) ?_
    refine rQ rfl (pick_F tab_ok rfl (by assumption) rfl) ?_
    refine nS ?_
    refine wc_true rfl (by assumption) ?_
    refine sR ?_
    refine rC rfl ik0 ?_
    refine nS ?_
    refine wc_ret ?_
    refine seq_r ?_
    exact ⟨trivial, [], .of rfl rfl rfl rfl rfl ⟨⟨_, rfl, AVLe.of_eq rfl⟩, rfl, trivial⟩ trivial⟩
  · refine wc_seq ?_
    refine wc_region ?_
    iterate 2 refine reg_new (step_C tab_ok (fun K hk => hk)) rfl ?_
    refine rC rfl ik0 ?_
    refine nS ?_
    refine wc_seq ?_
    refine sR ?_
    refine rC rfl ik0 ?_
    refine rQ rfl (load_box tab_ok rfl rfl ⟨_, rfl, rfl⟩ rfl) ?_
    refine rC rfl ik0 ?_
    refine rQ rfl (load_box tab_ok rfl rfl ⟨_, rfl, rfl⟩ rfl) ?_
    iterate 2 refine rC rfl ik0 ?_
    refine reg_on rfl rfl (by assumption) ?_
    refine rC rfl ik0 ?_
    refine reg_on rfl rfl (by assumption) ?_
    refine rQ rfl (load_box tab_ok rfl rfl ⟨_, rfl, rfl⟩ rfl) ?_
    refine reg_on rfl rfl (by assumption) ?_
    refine rC rfl ik0 ?_
    refine reg_on rfl rfl (by assumption) ?_
    refine rQ rfl (load_box tab_ok rfl rfl ⟨_, rfl, rfl⟩ rfl) ?_
    refine reg_on rfl rfl (by assumption) ?_
    refine rC rfl ik0 ?_
    refine rQ rfl (pick_F tab_ok rfl (by assumption) rfl) ?_
    refine rC rfl ik0 ?_
    refine reg_on rfl rfl (by assumption) ?_
    refine rC rfl ik0 ?_
    refine reg_on rfl rfl (by assumption) ?_
    refine rQ rfl (load_box tab_ok rfl rfl ⟨_, rfl, rfl⟩ rfl) ?_
    refine reg_on rfl rfl (by assumption) ?_
    refine rQ rfl (conv_bytes tab_ok rfl rfl rfl rfl) ?_
    refine reg_on rfl rfl (by assumption) ?_
    refine rC rfl ik0 ?_
    refine reg_on rfl rfl (by assumption) ?_
    refine rQ rfl (load_box tab_ok rfl rfl ⟨_, rfl, rfl⟩ rfl) ?_
    refine reg_on rfl rfl (by assumption) ?_
    refine rQ rfl (conv_bytes tab_ok rfl rfl rfl rfl) ?_
    refine reg_on rfl rfl (by assumption) ?_
    refine rQ rfl (neq_str tab_ok rfl rfl rfl) ?_
    refine rQ rfl (pick_F tab_ok rfl (by assumption) rfl) ?_
    refine nS ?_
    refine wc_false rfl (by assumption) ?_
    refine wc_skip ?_
    refine seq_n ?_
    refine sR ?_
    refine rC rfl ik0 ?_
    refine nS ?_
    refine wc_ret ?_
    exact ⟨trivial, [], .of rfl rfl rfl rfl rfl ⟨⟨_, rfl, AVLe.of_eq rfl⟩, rfl, trivial⟩ trivial⟩
theorem requal_is (x y : POp) : FnIs Tryz.prog 67 [.d (encPOp x), .d (encPOp y)] [] (.d (i6 (if x = y then 1 else 0))) [] := by
  have := requal_w x y (decide (x.kind = y.kind)) (decide (x.index = y.index)) (decide (x.data = y.data)) rfl rfl (by rw [str_dec])
  rw [← op_dec] at this
  simpa using this
theorem rsame_is (p q : List (List POp)) (hL : p.length ≤ 1000000000) (hP : ∀ x ∈ p, x.length ≤ 1000000000) : FnIs Tryz.prog 48 [.d (encPL p), .d (encPL q)] [] (.d (i6 (if p = q then 1 else 0))) [] := by
  refine fnIs_of tab_ok Tryz.func48 rfl rfl rfl ?_
  by_cases hlen : p.length = q.length
  · have hd : (!decide ((p.length : Int) = (q.length : Int))) = false := by rw [decide_eq_true (by omega)]; rfl
    refine sR ?_
    refine rC rfl ik0 ?_
    refine nS ?_
    refine wc_seq ?_
    refine sR ?_
    refine rC rfl ik0 ?_
    refine rQ rfl (len_arr tab_ok rfl rfl) ?_
    refine rC rfl ik0 ?_
    refine rQ rfl (len_arr tab_ok rfl rfl) ?_
    refine rC rfl ik0 ?_
    refine nS ?_
    refine wc_false rfl (by assumption) ?_
    refine wc_skip ?_
    refine seq_n ?_
    refine wc_seq ?_
    refine sR ?_
    refine rC rfl ik0 ?_
    refine nS ?_
    refine wc_block ?_
    refine wc_inv (fun i : Nat => ⟨[(5, .int .i64 i), (1, .d (encPL q)), (0, .d (encPL p))], [], 72, Tryz.f48.ntmps, 64⟩) (fun i => i ≤ p.length ∧ p.take i = q.take i) (fun i => p.length - i) 0 [] ⟨Nat.zero_le _, by simp⟩
      (.of rfl rfl rfl rfl rfl ⟨⟨_, rfl, .refl _⟩, rfl, ⟨_, rfl, .refl _⟩, rfl, ⟨_, rfl, .refl _⟩, rfl, trivial⟩ trivial) ?_
    intro i hi
    obtain ⟨hi, hsame⟩ := hi
    refine wc_of ?_
    refine wc_seq ?_
    refine sR ?_
    iterate 2 refine rC rfl ik0 ?_
    refine rQ rfl (len_arr tab_ok rfl rfl) ?_
    refine rC rfl ik0 ?_
    refine nS ?_
    refine wc_cond rfl (fun h3 => ?_) (fun h3 => ?_)
    · have hlt : i < p.length := by have := of_decide_eq_true h3; omega
      obtain ⟨x, hx⟩ : ∃ x, p[i]? = some x := ⟨_, List.getElem?_eq_getElem hlt⟩
      obtain ⟨y, hy⟩ : ∃ y, q[i]? = some y := ⟨_, List.getElem?_eq_getElem (by omega)⟩
      have hx' : p[((i : Int)).toNat]? = some x := by rw [Int.toNat_natCast]; exact hx
      have hy' : q[((i : Int)).toNat]? = some y := by rw [Int.toNat_natCast]; exact hy
      have hxl := hP x (List.mem_of_getElem? hx)
      have hpq : p = q → x = y := fun e => by rw [e, hy] at hx; cases hx; rfl
      by_cases hl2 : x.length = y.length
      · have hd2 : (!decide ((x.length : Int) = (y.length : Int))) = false := by rw [decide_eq_true (by omega)]; rfl
        refine wc_skip ?_
        refine seq_n ?_
        refine wc_seq ?_
        refine wc_block ?_
        iterate 2 refine wc_seq ?_
        refine wc_draw (by kernel_rfl) ?_
        refine dreg_q [0] [] rfl (step_C tab_ok (fun K hk => hk)) ?_
        refine dreg_q [5] [] rfl (step_C tab_ok (fun K hk => hk)) ?_
        refine dreg_q [18, 19] [] rfl (index_arr tab_ok rfl rfl rfl rfl rfl (by omega) (by assumption)) ?_
        refine dreg_q [20] [] rfl (load_i tab_ok rfl rfl) ?_
        refine dreg_q [21] [] rfl (len_arr tab_ok rfl rfl) ?_
        refine dreg_q [1] [] rfl (step_C tab_ok (fun K hk => hk)) ?_
        refine dreg_q [5] [] rfl (step_C tab_ok (fun K hk => hk)) ?_
        refine dreg_q [23, 24] [] rfl (index_arr tab_ok rfl rfl rfl rfl rfl (by omega) (by assumption)) ?_
        refine dreg_q [25] [] rfl (load_i tab_ok rfl rfl) ?_
        refine dreg_q [26] [] rfl (len_arr tab_ok rfl rfl) ?_
        refine dreg_q [22, 27] [] rfl (step_C tab_ok (fun K hk => hk)) ?_
        refine dreg_end (by kernel_rfl) ?_
        refine seq_n ?_
        refine wc_false rfl (by assumption) ?_
        refine wc_skip ?_
        refine seq_n ?_
        refine sR ?_
        refine rC rfl ik0 ?_
        refine nS ?_
        refine wc_block ?_
        refine wc_inv (fun j : Nat => ⟨[(6, .int .i64 j), (5, .int .i64 i), (1, .d (encPL q)), (0, .d (encPL p))], [], 72, Tryz.f48.ntmps, 64⟩) (fun j => j ≤ x.length ∧ x.take j = y.take j) (fun j => x.length - j) 0 [] ⟨Nat.zero_le _, by simp⟩
          (.of rfl rfl rfl rfl rfl ⟨⟨_, rfl, .refl _⟩, rfl, ⟨_, rfl, .refl _⟩, rfl, ⟨_, rfl, .refl _⟩, rfl, ⟨_, rfl, .refl _⟩, rfl, trivial⟩ trivial) ?_
        intro j hj
        obtain ⟨hj, hsj⟩ := hj
        refine wc_of ?_
        refine wc_seq ?_
        refine sR ?_
        iterate 3 refine rC rfl ik0 ?_
        refine rQ rfl (index_arr tab_ok rfl rfl rfl rfl rfl (by omega) (by assumption)) ?_
        refine rQ rfl (load_i tab_ok rfl rfl) ?_
        refine rQ rfl (len_arr tab_ok rfl rfl) ?_
        refine rC rfl ik0 ?_
        refine nS ?_
        refine wc_cond rfl (fun h4 => ?_) (fun h4 => ?_)
        · have hjl : j < x.length := by have := of_decide_eq_true h4; omega
          obtain ⟨o, ho⟩ : ∃ o, x[j]? = some o := ⟨_, List.getElem?_eq_getElem hjl⟩
          obtain ⟨u, hu⟩ : ∃ u, y[j]? = some u := ⟨_, List.getElem?_eq_getElem (by omega)⟩
          have ho' : x[((j : Int)).toNat]? = some o := by rw [Int.toNat_natCast]; exact ho
          have hu' : y[((j : Int)).toNat]? = some u := by rw [Int.toNat_natCast]; exact hu
          have hreq := requal_is o u
          by_cases he : o = u
          · rw [if_pos he] at hreq
            refine wc_skip ?_
            refine seq_n ?_
            refine wc_seq ?_
            refine wc_block ?_
            refine wc_seq ?_
            refine wc_draw (by kernel_rfl) ?_
            refine dreg_q [0] [] rfl (step_C tab_ok (fun K hk => hk)) ?_
            refine dreg_q [5] [] rfl (step_C tab_ok (fun K hk => hk)) ?_
            refine dreg_q [38, 39] [] rfl (index_arr tab_ok rfl rfl rfl rfl rfl (by omega) (by assumption)) ?_
            refine dreg_q [40] [] rfl (load_i tab_ok rfl rfl) ?_
            refine dreg_q [6] [] rfl (step_C tab_ok (fun K hk => hk)) ?_
            refine dreg_q [41, 42] [] rfl (index_arr tab_ok rfl rfl rfl rfl rfl (by omega) (by assumption)) ?_
            refine dreg_q [43] [] rfl (load_i tab_ok rfl rfl) ?_
            refine dreg_q [1] [] rfl (step_C tab_ok (fun K hk => hk)) ?_
            refine dreg_q [5] [] rfl (step_C tab_ok (fun K hk => hk)) ?_
            refine dreg_q [45, 46] [] rfl (index_arr tab_ok rfl rfl rfl rfl rfl (by omega) (by assumption)) ?_
            refine dreg_q [47] [] rfl (load_i tab_ok rfl rfl) ?_
            refine dreg_q [6] [] rfl (step_C tab_ok (fun K hk => hk)) ?_
            refine dreg_q [48, 49] [] rfl (index_arr tab_ok rfl rfl rfl rfl rfl (by omega) (by assumption)) ?_
            refine dreg_q [50] [] rfl (load_i tab_ok rfl rfl) ?_
            refine dreg_q [44, 51] [] rfl (call_r hreq rfl rfl (arg_e (arg_e arg_nil)) (.inl rfl) (fun _ => rfl)) ?_
            refine dreg_q [52] [] rfl (step_C tab_ok (fun K hk => hk)) ?_
            refine dreg_end (by kernel_rfl) ?_
            refine seq_n ?_
            refine wc_false rfl rfl ?_
            refine wc_skip ?_
            refine blk_n ?_
            refine seq_n ?_
            refine wc_region ?_
            refine rC rfl ik0 ?_
            refine rQ rfl (add_int tab_ok rfl rfl (wrap_i64 (by omega) (by omega))) ?_
            refine rC rfl ik0 ?_
            refine reg_nil ?_
            exact loop_n (j + 1) [] ⟨hjl, by rw [List.take_add_one, List.take_add_one, ho, hu, hsj, he]⟩ (by omega) (.of rfl rfl rfl rfl rfl ⟨⟨_, rfl, .refl _⟩, rfl, ⟨_, rfl, .refl _⟩, rfl, ⟨_, rfl, .refl _⟩, rfl, ⟨_, rfl, .refl _⟩, rfl, trivial⟩ trivial)
          · rw [if_neg he] at hreq
            rw [if_neg (fun e => he (by have e2 := hpq e; rw [e2, hu] at ho; cases ho; rfl))]
            refine wc_skip ?_
            refine seq_n ?_
            refine wc_seq ?_
            refine wc_block ?_
            refine wc_seq ?_
            refine wc_draw (by kernel_rfl) ?_
            refine dreg_q [0] [] rfl (step_C tab_ok (fun K hk => hk)) ?_
            refine dreg_q [5] [] rfl (step_C tab_ok (fun K hk => hk)) ?_
            refine dreg_q [38, 39] [] rfl (index_arr tab_ok rfl rfl rfl rfl rfl (by omega) (by assumption)) ?_
            refine dreg_q [40] [] rfl (load_i tab_ok rfl rfl) ?_
            refine dreg_q [6] [] rfl (step_C tab_ok (fun K hk => hk)) ?_
            refine dreg_q [41, 42] [] rfl (index_arr tab_ok rfl rfl rfl rfl rfl (by omega) (by assumption)) ?_
            refine dreg_q [43] [] rfl (load_i tab_ok rfl rfl) ?_
            refine dreg_q [1] [] rfl (step_C tab_ok (fun K hk => hk)) ?_
            refine dreg_q [5] [] rfl (step_C tab_ok (fun K hk => hk)) ?_
            refine dreg_q [45, 46] [] rfl (index_arr tab_ok rfl rfl rfl rfl rfl (by omega) (by assumption)) ?_
            refine dreg_q [47] [] rfl (load_i tab_ok rfl rfl) ?_
            refine dreg_q [6] [] rfl (step_C tab_ok (fun K hk => hk)) ?_
            refine dreg_q [48, 49] [] rfl (index_arr tab_ok rfl rfl rfl rfl rfl (by omega) (by assumption)) ?_
            refine dreg_q [50] [] rfl (load_i tab_ok rfl rfl) ?_
            refine dreg_q [44, 51] [] rfl (call_r hreq rfl rfl (arg_e (arg_e arg_nil)) (.inl rfl) (fun _ => rfl)) ?_
            refine dreg_q [52] [] rfl (step_C tab_ok (fun K hk => hk)) ?_
            refine dreg_end (by kernel_rfl) ?_
            refine seq_n ?_
            refine wc_true rfl rfl ?_
            refine sR ?_
            refine rC rfl ik0 ?_
            refine nS ?_
            refine wc_ret ?_
            refine blk_r ?_
            refine seq_r ?_
            refine loop_r ?_
            iterate 2 refine blk_r ?_
            refine seq_r ?_
            refine loop_r ?_
            refine blk_r ?_
            refine seq_r ?_
            exact ⟨trivial, [], .of rfl rfl rfl rfl rfl ⟨⟨_, rfl, AVLe.of_eq rfl⟩, rfl, trivial⟩ trivial⟩
        · have he : j = x.length := by have := of_decide_eq_false h4; omega
          subst he
          have hxy : x = y := by rw [List.take_length] at hsj; rw [hsj, hl2, List.take_length]
          refine wc_exit ?_
          refine seq_x ?_
          refine loop_x ?_
          refine blk_x ?_
          refine blk_n ?_
          refine seq_n ?_
          refine wc_region ?_
          refine rC rfl ik0 ?_
          refine rQ rfl (add_int tab_ok rfl rfl (wrap_i64 (by omega) (by omega))) ?_
          refine rC rfl ik0 ?_
          refine reg_nil ?_
          exact loop_n (i + 1) [] ⟨hlt, by rw [List.take_add_one, List.take_add_one, hx, hy, hsame, hxy]⟩ (by omega) (.of rfl rfl rfl rfl rfl ⟨⟨_, rfl, .refl _⟩, rfl, ⟨_, rfl, .refl _⟩, rfl, ⟨_, rfl, .refl _⟩, rfl, trivial⟩ trivial)
      · have hd2 : (!decide ((x.length : Int) = (y.length : Int))) = true := by rw [decide_eq_false (by omega)]; rfl
        rw [if_neg (fun e => hl2 (by rw [hpq e]))]
        refine wc_skip ?_
        refine seq_n ?_
        refine wc_seq ?_
        refine wc_block ?_
        iterate 2 refine wc_seq ?_
        refine wc_draw (by kernel_rfl) ?_
        refine dreg_q [0] [] rfl (step_C tab_ok (fun K hk => hk)) ?_
        refine dreg_q [5] [] rfl (step_C tab_ok (fun K hk => hk)) ?_
        refine dreg_q [18, 19] [] rfl (index_arr tab_ok rfl rfl rfl rfl rfl (by omega) (by assumption)) ?_
        refine dreg_q [20] [] rfl (load_i tab_ok rfl rfl) ?_
        refine dreg_q [21] [] rfl (len_arr tab_ok rfl rfl) ?_
        refine dreg_q [1] [] rfl (step_C tab_ok (fun K hk => hk)) ?_
        refine dreg_q [5] [] rfl (step_C tab_ok (fun K hk => hk)) ?_
        refine dreg_q [23, 24] [] rfl (index_arr tab_ok rfl rfl rfl rfl rfl (by omega) (by assumption)) ?_
        refine dreg_q [25] [] rfl (load_i tab_ok rfl rfl) ?_
        refine dreg_q [26] [] rfl (len_arr tab_ok rfl rfl) ?_
        refine dreg_q [22, 27] [] rfl (step_C tab_ok (fun K hk => hk)) ?_
        refine dreg_end (by kernel_rfl) ?_
        refine seq_n ?_
        refine wc_true rfl (by assumption) ?_
        refine sR ?_
        refine rC rfl ik0 ?_
        refine nS ?_
        refine wc_ret ?_
        refine seq_r ?_
        refine blk_r ?_
        refine seq_r ?_
        refine loop_r ?_
        refine blk_r ?_
        refine seq_r ?_
        exact ⟨trivial, [], .of rfl rfl rfl rfl rfl ⟨⟨_, rfl, AVLe.of_eq rfl⟩, rfl, trivial⟩ trivial⟩
    · have he : i = p.length := by have := of_decide_eq_false h3; omega
      subst he
      have hpq : p = q := by rw [List.take_length] at hsame; rw [hsame, hlen, List.take_length]
      rw [if_pos hpq]
      refine wc_exit ?_
      refine seq_x ?_
      refine loop_x ?_
      refine blk_x ?_
      refine seq_n ?_
      refine sR ?_
      refine rC rfl ik0 ?_
      refine nS ?_
      refine wc_ret ?_
      exact ⟨trivial, [], .of rfl rfl rfl rfl rfl ⟨⟨_, rfl, AVLe.of_eq rfl⟩, rfl, trivial⟩ trivial⟩
  · have hd : (!decide ((p.length : Int) = (q.length : Int))) = true := by rw [decide_eq_false (by omega)]; rfl
    rw [if_neg (fun e => hlen (by rw [e]))]
    refine sR ?_
    refine rC rfl ik0 ?_
    refine nS ?_
    refine wc_seq ?_
    refine sR ?_
    refine rC rfl ik0 ?_
    refine rQ rfl (len_arr tab_ok rfl rfl) ?_
    refine rC rfl ik0 ?_
    refine rQ rfl (len_arr tab_ok rfl rfl) ?_
    refine rC rfl ik0 ?_
    refine nS ?_
    refine wc_true rfl (by assumption) ?_
    refine sR ?_
    refine rC rfl ik0 ?_
    refine nS ?_
    refine wc_ret ?_
    refine seq_r ?_
    exact ⟨trivial, [], .of rfl rfl rfl rfl rfl ⟨⟨_, rfl, AVLe.of_eq rfl⟩, rfl, trivial⟩ trivial⟩
end Go.Proofs.YtmojbghcngdkpaaGreatDoor

namespace Go.Proofs.YtmojbghcngdkpaaGreatDoor
open Go.Eng Go.Plain
set_option maxHeartbeats 4000000
set_option maxRecDepth 20000
attribute [local irreducible] WC RegS RegD SeqQ BlkQ ScoQ RegK CutK Sat SatN FnIs LoopQ StepIs OpIs
theorem rcheck_is (l : List (List POp)) : FnIs Tryz.prog 36 [.d (encPL l)] [] (.d (i6 (chkP l))) [] := by
  refine fnIs_of tab_ok Tryz.func36 rfl rfl rfl ?_
  by_cases h8 : 8 < l.length
  · have hd : decide (8 < (l.length : Int)) = true := decide_eq_true (by omega)
    rw [show chkP l = 3 by rw [chkP, if_pos h8]]
    refine sR ?_
    refine rC rfl ik0 ?_
    refine nS ?_
    refine wc_seq ?_
    refine sR ?_
    refine rC rfl ik0 ?_
    refine rQ rfl (len_arr tab_ok rfl rfl) ?_
    refine rC rfl ik0 ?_
    refine nS ?_
    refine wc_true rfl (by assumption) ?_
    refine sR ?_
    refine rC rfl ik0 ?_
    refine nS ?_
    refine wc_ret ?_
    refine seq_r ?_
    exact ⟨trivial, [], .of rfl rfl rfl rfl rfl ⟨⟨_, rfl, AVLe.of_eq rfl⟩, rfl, trivial⟩ trivial⟩
  have hd : decide (8 < (l.length : Int)) = false := decide_eq_false (by omega)
  have hbad : ∀ p ∈ l, badP p = true → chkP l = 3 := fun p hp hb => by
    rw [chkP, if_neg h8, if_pos (List.any_eq_true.2 ⟨p, hp, hb⟩)]
  refine sR ?_
  refine rC rfl ik0 ?_
  refine nS ?_
  refine wc_seq ?_
  refine sR ?_
  refine rC rfl ik0 ?_
  refine rQ rfl (len_arr tab_ok rfl rfl) ?_
  refine rC rfl ik0 ?_
  refine nS ?_
  refine wc_false rfl (by assumption) ?_
  refine wc_skip ?_
  refine seq_n ?_
  refine wc_seq ?_
  refine sR ?_
  refine rC rfl ik0 ?_
  refine nS ?_
  refine wc_block ?_
  refine wc_inv (fun i : Nat => ⟨[(3, .int .i64 i), (0, .d (encPL l))], [], 72, Tryz.f36.ntmps, 64⟩) (fun i => i ≤ l.length ∧ ∀ p ∈ l.take i, badP p = false) (fun i => l.length - i) 0 [] ⟨Nat.zero_le _, by simp⟩
    (.of rfl rfl rfl rfl rfl ⟨⟨_, rfl, .refl _⟩, rfl, ⟨_, rfl, .refl _⟩, rfl, trivial⟩ trivial) ?_
  intro i hi
  obtain ⟨hi, hgood⟩ := hi
  refine wc_of ?_
  refine wc_seq ?_
  refine sR ?_
  iterate 2 refine rC rfl ik0 ?_
  refine rQ rfl (len_arr tab_ok rfl rfl) ?_
  refine rC rfl ik0 ?_
  refine nS ?_
  refine wc_cond rfl (fun h3 => ?_) (fun h3 => ?_)
  · have hlt : i < l.length := by have := of_decide_eq_true h3; omega
    obtain ⟨p, hp⟩ : ∃ p, l[i]? = some p := ⟨_, List.getElem?_eq_getElem hlt⟩
    have hp' : l[((i : Int)).toNat]? = some p := by rw [Int.toNat_natCast]; exact hp
    have hpm := List.mem_of_getElem? hp
    by_cases h64 : 64 < p.length
    · have hd2 : decide (64 < (p.length : Int)) = true := decide_eq_true (by omega)
      rw [hbad p hpm (by simp [badP, h64])]
      refine wc_skip ?_
      refine seq_n ?_
      refine wc_seq ?_
      refine wc_block ?_
      refine wc_seq ?_
      refine sR ?_
      iterate 2 refine rC rfl ik0 ?_
      refine rQ rfl (index_arr tab_ok rfl rfl rfl rfl rfl (by omega) (by assumption)) ?_
      refine rQ rfl (load_i tab_ok rfl rfl) ?_
      refine rQ rfl (len_arr tab_ok rfl rfl) ?_
      refine rC rfl ik0 ?_
      refine nS ?_
      refine wc_true rfl (by assumption) ?_
      refine sR ?_
      refine rC rfl ik0 ?_
      refine nS ?_
      refine wc_ret ?_
      refine seq_r ?_
      refine blk_r ?_
      refine seq_r ?_
      refine loop_r ?_
      refine blk_r ?_
      refine seq_r ?_
      exact ⟨trivial, [], .of rfl rfl rfl rfl rfl ⟨⟨_, rfl, AVLe.of_eq rfl⟩, rfl, trivial⟩ trivial⟩
    have hd2 : decide (64 < (p.length : Int)) = false := decide_eq_false (by omega)
    refine wc_skip ?_
    refine seq_n ?_
    refine wc_seq ?_
    refine wc_block ?_
    refine wc_seq ?_
    refine sR ?_
    iterate 2 refine rC rfl ik0 ?_
    refine rQ rfl (index_arr tab_ok rfl rfl rfl rfl rfl (by omega) (by assumption)) ?_
    refine rQ rfl (load_i tab_ok rfl rfl) ?_
    refine rQ rfl (len_arr tab_ok rfl rfl) ?_
    refine rC rfl ik0 ?_
    refine nS ?_
    refine wc_false rfl (by assumption) ?_
    refine wc_skip ?_
    refine seq_n ?_
    refine sR ?_
    refine rC rfl ik0 ?_
    refine nS ?_
    refine wc_block ?_
    refine wc_inv (fun j : Nat => ⟨[(4, .int .i64 j), (3, .int .i64 i), (0, .d (encPL l))], [], 72, Tryz.f36.ntmps, 64⟩) (fun j => j ≤ p.length ∧ ∀ o ∈ p.take j, o.data.length ≤ 64) (fun j => p.length - j) 0 [] ⟨Nat.zero_le _, by simp⟩
      (.of rfl rfl rfl rfl rfl ⟨⟨_, rfl, .refl _⟩, rfl, ⟨_, rfl, .refl _⟩, rfl, ⟨_, rfl, .refl _⟩, rfl, trivial⟩ trivial) ?_
    intro j hj
    obtain ⟨hj, hdat⟩ := hj
    refine wc_of ?_
    refine wc_seq ?_
    refine sR ?_
    iterate 3 refine rC rfl ik0 ?_
    refine rQ rfl (index_arr tab_ok rfl rfl rfl rfl rfl (by omega) (by assumption)) ?_
    refine rQ rfl (load_i tab_ok rfl rfl) ?_
    refine rQ rfl (len_arr tab_ok rfl rfl) ?_
    refine rC rfl ik0 ?_
    refine nS ?_
    refine wc_cond rfl (fun h4 => ?_) (fun h4 => ?_)
    · have hjl : j < p.length := by have := of_decide_eq_true h4; omega
      obtain ⟨o, ho⟩ : ∃ o, p[j]? = some o := ⟨_, List.getElem?_eq_getElem hjl⟩
      have ho' : p[((j : Int)).toNat]? = some o := by rw [Int.toNat_natCast]; exact ho
      have hbl : (byI o.data).length = o.data.length := byI_len _
      by_cases hbig : 64 < o.data.length
      · have hd3 : decide (64 < ((byI o.data).length : Int)) = true := decide_eq_true (by omega)
        rw [hbad p hpm (by rw [badP, Bool.or_eq_true]; exact .inr (List.any_eq_true.2 ⟨o, List.mem_of_getElem? ho, decide_eq_true hbig⟩))]
        refine wc_skip ?_
        refine seq_n ?_
        refine wc_seq ?_
        refine wc_block ?_
        refine sR ?_
        iterate 2 refine rC rfl ik0 ?_
        refine rQ rfl (index_arr tab_ok rfl rfl rfl rfl rfl (by omega) (by assumption)) ?_
        refine rQ rfl (load_i tab_ok rfl rfl) ?_
        refine rC rfl ik0 ?_
        refine rQ rfl (index_arr tab_ok rfl rfl rfl rfl rfl (by omega) (by assumption)) ?_
        refine rC rfl ik0 ?_
        refine rQ rfl (load_i tab_ok rfl rfl) ?_
        refine rQ rfl (len_arr tab_ok rfl rfl) ?_
        refine rC rfl ik0 ?_
        refine nS ?_
        refine wc_true rfl (by assumption) ?_
        refine sR ?_
        refine rC rfl ik0 ?_
        refine nS ?_
        refine wc_ret ?_
        refine blk_r ?_
        refine seq_r ?_
        refine loop_r ?_
        iterate 2 refine blk_r ?_
        refine seq_r ?_
        refine loop_r ?_
        refine blk_r ?_
        refine seq_r ?_
        exact ⟨trivial, [], .of rfl rfl rfl rfl rfl ⟨⟨_, rfl, AVLe.of_eq rfl⟩, rfl, trivial⟩ trivial⟩
      · have hd3 : decide (64 < ((byI o.data).length : Int)) = false := decide_eq_false (by omega)
        refine wc_skip ?_
        refine seq_n ?_
        refine wc_seq ?_
        refine wc_block ?_
        refine sR ?_
        iterate 2 refine rC rfl ik0 ?_
        refine rQ rfl (index_arr tab_ok rfl rfl rfl rfl rfl (by omega) (by assumption)) ?_
        refine rQ rfl (load_i tab_ok rfl rfl) ?_
        refine rC rfl ik0 ?_
        refine rQ rfl (index_arr tab_ok rfl rfl rfl rfl rfl (by omega) (by assumption)) ?_
        refine rC rfl ik0 ?_
        refine rQ rfl (load_i tab_ok rfl rfl) ?_
        refine rQ rfl (len_arr tab_ok rfl rfl) ?_
        refine rC rfl ik0 ?_
        refine nS ?_
        refine wc_false rfl (by assumption) ?_
        refine wc_skip ?_
        refine blk_n ?_
        refine seq_n ?_
        refine wc_region ?_
        refine rC rfl ik0 ?_
        refine rQ rfl (add_int tab_ok rfl rfl (wrap_i64 (by omega) (by omega))) ?_
        refine rC rfl ik0 ?_
        refine reg_nil ?_
        exact loop_n (j + 1) [] ⟨hjl, fun x hx => by rw [List.take_add_one, ho] at hx; rcases List.mem_append.1 hx with hx | hx; exact hdat x hx; rw [show x = o by simpa using hx]; omega⟩ (by omega) (.of rfl rfl rfl rfl rfl ⟨⟨_, rfl, .refl _⟩, rfl, ⟨_, rfl, .refl _⟩, rfl, ⟨_, rfl, .refl _⟩, rfl, trivial⟩ trivial)
    · have he : j = p.length := by have := of_decide_eq_false h4; omega
      subst he
      have hpg : badP p = false := by
        rw [badP, Bool.or_eq_false_iff]
        refine ⟨decide_eq_false h64, ?_⟩
        rw [List.any_eq_false]
        intro o ho
        have := hdat o (by rw [List.take_length]; exact ho)
        simp only [decide_eq_true_eq]; omega
      refine wc_exit ?_
      refine seq_x ?_
      refine loop_x ?_
      refine blk_x ?_
      refine blk_n ?_
      refine seq_n ?_
      refine wc_region ?_
      refine rC rfl ik0 ?_
      refine rQ rfl (add_int tab_ok rfl rfl (wrap_i64 (by omega) (by omega))) ?_
      refine rC rfl ik0 ?_
      refine reg_nil ?_
      exact loop_n (i + 1) [] ⟨hlt, fun x hx => by rw [List.take_add_one, hp] at hx; rcases List.mem_append.1 hx with hx | hx; exact hgood x hx; rw [show x = p by simpa using hx]; exact hpg⟩ (by omega) (.of rfl rfl rfl rfl rfl ⟨⟨_, rfl, .refl _⟩, rfl, ⟨_, rfl, .refl _⟩, rfl, trivial⟩ trivial)
  · have he : i = l.length := by have := of_decide_eq_false h3; omega
    subst he
    rw [show chkP l = 0 from chkP_ok.2 ⟨by omega, fun p hp => hgood p (by rw [List.take_length]; exact hp)⟩]
    refine wc_exit ?_
    refine seq_x ?_
    refine loop_x ?_
    refine blk_x ?_
    refine seq_n ?_
    refine sR ?_
    refine rC rfl ik0 ?_
    refine nS ?_
    refine wc_ret ?_
    exact ⟨trivial, [], .of rfl rfl rfl rfl rfl ⟨⟨_, rfl, AVLe.of_eq rfl⟩, rfl, trivial⟩ trivial⟩
end Go.Proofs.YtmojbghcngdkpaaGreatDoor

namespace Go.Proofs.YtmojbghcngdkpaaGreatDoor
open Go.Eng Go.Plain
set_option maxHeartbeats 4000000
set_option maxRecDepth 20000
attribute [local irreducible] WC RegS RegD SeqQ BlkQ ScoQ RegK CutK Sat SatN FnIs LoopQ StepIs OpIs
/-- Within the bounds of the statements. -/
def SmallL (l : List (List POp)) : Prop := l.length ≤ 12 ∧ l.flatten.length ≤ 200 ∧ ∀ p ∈ l, p.length ≤ 66 ∧ ∀ o ∈ p, o.data.length ≤ 70
def smallB (l : List (List POp)) : Bool := decide (l.length ≤ 12) && decide (l.flatten.length ≤ 200) && l.all fun p => decide (p.length ≤ 66) && p.all fun o => decide (o.data.length ≤ 70)
theorem small_iff (l : List (List POp)) : smallB l = true ↔ SmallL l := by
  simp only [smallB, SmallL, Bool.and_eq_true, decide_eq_true_eq, List.all_eq_true, and_assoc]
theorem small_no {l : List (List POp)} (h : ¬ SmallL l) : smallB l = false := by
  cases hb : smallB l with
  | false => rfl
  | true => exact absurd ((small_iff l).1 hb) h
theorem flat_mem_le {l : List (List POp)} {i : Nat} {p : List POp} (hp : l[i]? = some p) : (l.take i).flatten.length + p.length ≤ l.flatten.length := by
  have h1 := take_flat_le l (i + 1)
  rw [← preO_end hp, preO, List.take_length, List.length_append] at h1
  exact h1
theorem small_is (l : List (List POp)) : FnIs Tryz.prog 34 [.d (encPL l)] [] (.d (i6 (if smallB l = true then 1 else 0))) [] := by
  refine fnIs_of tab_ok Tryz.func34 rfl rfl rfl ?_
  by_cases h8 : 12 < l.length
  · have hd : decide (12 < (l.length : Int)) = true := decide_eq_true (by omega)
    rw [small_no (fun h => by have := h.1; omega)]
    refine sR ?_
    refine rC rfl ik0 ?_
    refine nR ?_
    refine rC rfl ik0 ?_
    refine nS ?_
    refine wc_seq ?_
    refine sR ?_
    refine rC rfl ik0 ?_
    refine rQ rfl (len_arr tab_ok rfl rfl) ?_
    refine rC rfl ik0 ?_
    refine nS ?_
    refine wc_true rfl (by assumption) ?_
    refine sR ?_
    refine rC rfl ik0 ?_
    refine nS ?_
    refine wc_ret ?_
    refine seq_r ?_
    exact ⟨trivial, [], .of rfl rfl rfl rfl rfl ⟨⟨_, rfl, AVLe.of_eq rfl⟩, rfl, trivial⟩ trivial⟩
  have hd : decide (12 < (l.length : Int)) = false := decide_eq_false (by omega)
  refine sR ?_
  refine rC rfl ik0 ?_
  refine nR ?_
  refine rC rfl ik0 ?_
  refine nS ?_
  refine wc_seq ?_
  refine sR ?_
  refine rC rfl ik0 ?_
  refine rQ rfl (len_arr tab_ok rfl rfl) ?_
  refine rC rfl ik0 ?_
  refine nS ?_
  refine wc_false rfl (by assumption) ?_
  refine wc_skip ?_
  refine seq_n ?_
  refine wc_seq ?_
  refine sR ?_
  refine rC rfl ik0 ?_
  refine nS ?_
  refine wc_block ?_
  refine wc_inv (fun i : Nat => ⟨[(4, .int .i64 i), (3, .int .i64 (l.take i).flatten.length), (0, .d (encPL l))], [], 72, Tryz.f34.ntmps, 64⟩) (fun i => i ≤ l.length ∧ (l.take i).flatten.length ≤ 200 ∧ ∀ p ∈ l.take i, p.length ≤ 66 ∧ ∀ o ∈ p, o.data.length ≤ 70) (fun i => l.length - i) 0 [] ⟨Nat.zero_le _, by simp, by simp⟩
    (.of rfl rfl rfl rfl rfl ⟨⟨_, rfl, .refl _⟩, rfl, ⟨_, rfl, .refl _⟩, rfl, ⟨_, rfl, .refl _⟩, rfl, trivial⟩ trivial) ?_
  intro i hi
  obtain ⟨hi, hfl, hgood⟩ := hi
  refine wc_of ?_
  refine wc_seq ?_
  refine sR ?_
  iterate 2 refine rC rfl ik0 ?_
  refine rQ rfl (len_arr tab_ok rfl rfl) ?_
  refine rC rfl ik0 ?_
  refine nS ?_
  refine wc_cond rfl (fun h3 => ?_) (fun h3 => ?_)
  · have hlt : i < l.length := by have := of_decide_eq_true h3; omega
    obtain ⟨p, hp⟩ : ∃ p, l[i]? = some p := ⟨_, List.getElem?_eq_getElem hlt⟩
    have hp' : l[((i : Int)).toNat]? = some p := by rw [Int.toNat_natCast]; exact hp
    have hpm := List.mem_of_getElem? hp
    have hfm := flat_mem_le hp
    by_cases h64 : 66 < p.length
    · have hd2 : decide (66 < (p.length : Int)) = true := decide_eq_true (by omega)
      rw [small_no (fun h => by have := (h.2.2 p hpm).1; omega)]
      refine wc_skip ?_
      refine seq_n ?_
      refine wc_seq ?_
      refine wc_block ?_
      refine sR ?_
      iterate 3 refine rC rfl ik0 ?_
      refine rQ rfl (index_arr tab_ok rfl rfl rfl rfl rfl (by omega) (by assumption)) ?_
      refine rQ rfl (load_i tab_ok rfl rfl) ?_
      refine rQ rfl (len_arr tab_ok rfl rfl) ?_
      refine rQ rfl (add_int (m := IntKind.i64.wrap ((((l.take i).flatten.length : Nat) : Int) + (p.length : Int))) tab_ok rfl rfl rfl) ?_
      refine rC rfl ik0 ?_
      refine nS ?_
      refine wc_seq ?_
      refine sR ?_
      iterate 2 refine rC rfl ik0 ?_
      refine rQ rfl (index_arr tab_ok rfl rfl rfl rfl rfl (by omega) (by assumption)) ?_
      refine rQ rfl (load_i tab_ok rfl rfl) ?_
      refine rQ rfl (len_arr tab_ok rfl rfl) ?_
      iterate 2 refine rC rfl ik0 ?_
      iterate 2 refine reg_skip rfl rfl (by assumption) rfl rfl ?_
      refine rQ rfl (pick_T tab_ok rfl (by assumption) rfl) ?_
      refine nS ?_
      refine wc_true rfl rfl ?_
      refine sR ?_
      refine rC rfl ik0 ?_
      refine nS ?_
      refine wc_ret ?_
      refine seq_r ?_
      refine blk_r ?_
      refine seq_r ?_
      refine loop_r ?_
      refine blk_r ?_
      refine seq_r ?_
      exact ⟨trivial, [], .of rfl rfl rfl rfl rfl ⟨⟨_, rfl, AVLe.of_eq rfl⟩, rfl, trivial⟩ trivial⟩
    have hd2 : decide (66 < (p.length : Int)) = false := decide_eq_false (by omega)
    have hfn : (l.take (i + 1)).flatten.length = (l.take i).flatten.length + p.length := by rw [← preO_end hp, preO, List.take_length, List.length_append]
    have hw : IntKind.i64.wrap ((((l.take i).flatten.length : Nat) : Int) + (p.length : Int)) = (((l.take (i + 1)).flatten.length : Nat) : Int) := by rw [hfn, wrap_i64 (by omega) (by omega)]; omega
    by_cases h200 : 200 < (l.take (i + 1)).flatten.length
    · have hd4 : decide (200 < IntKind.i64.wrap ((((l.take i).flatten.length : Nat) : Int) + (p.length : Int))) = true := by rw [hw]; exact decide_eq_true (by omega)
      rw [small_no (fun h => by have := h.2.1; omega)]
      refine wc_skip ?_
      refine seq_n ?_
      refine wc_seq ?_
      refine wc_block ?_
      refine sR ?_
      iterate 3 refine rC rfl ik0 ?_
      refine rQ rfl (index_arr tab_ok rfl rfl rfl rfl rfl (by omega) (by assumption)) ?_
      refine rQ rfl (load_i tab_ok rfl rfl) ?_
      refine rQ rfl (len_arr tab_ok rfl rfl) ?_
      refine rQ rfl (add_int (m := IntKind.i64.wrap ((((l.take i).flatten.length : Nat) : Int) + (p.length : Int))) tab_ok rfl rfl rfl) ?_
      refine rC rfl ik0 ?_
      refine nS ?_
      refine wc_seq ?_
      refine sR ?_
      iterate 2 refine rC rfl ik0 ?_
      refine rQ rfl (index_arr tab_ok rfl rfl rfl rfl rfl (by omega) (by assumption)) ?_
      refine rQ rfl (load_i tab_ok rfl rfl) ?_
      refine rQ rfl (len_arr tab_ok rfl rfl) ?_
      iterate 2 refine rC rfl ik0 ?_
      refine reg_on rfl rfl (by assumption) ?_
      refine rC rfl ik0 ?_
      refine reg_on rfl rfl (by assumption) ?_
      refine rC rfl ik0 ?_
      refine rQ rfl (pick_F tab_ok rfl (by assumption) rfl) ?_
      refine nS ?_
      refine wc_true rfl (by assumption) ?_
      refine sR ?_
      refine rC rfl ik0 ?_
      refine nS ?_
      refine wc_ret ?_
      refine seq_r ?_
      refine blk_r ?_
      refine seq_r ?_
      refine loop_r ?_
      refine blk_r ?_
      refine seq_r ?_
      exact ⟨trivial, [], .of rfl rfl rfl rfl rfl ⟨⟨_, rfl, AVLe.of_eq rfl⟩, rfl, trivial⟩ trivial⟩
    have hd4 : decide (200 < IntKind.i64.wrap ((((l.take i).flatten.length : Nat) : Int) + (p.length : Int))) = false := by rw [hw]; exact decide_eq_false (by omega)
    refine wc_skip ?_
    refine seq_n ?_
    refine wc_seq ?_
    refine wc_block ?_
    refine sR ?_
    iterate 3 refine rC rfl ik0 ?_
    refine rQ rfl (index_arr tab_ok rfl rfl rfl rfl rfl (by omega) (by assumption)) ?_
    refine rQ rfl (load_i tab_ok rfl rfl) ?_
    refine rQ rfl (len_arr tab_ok rfl rfl) ?_
    refine rQ rfl (add_int (m := IntKind.i64.wrap ((((l.take i).flatten.length : Nat) : Int) + (p.length : Int))) tab_ok rfl rfl rfl) ?_
    refine rC rfl ik0 ?_
    refine nS ?_
    refine wc_seq ?_
    refine sR ?_
    iterate 2 refine rC rfl ik0 ?_
    refine rQ rfl (index_arr tab_ok rfl rfl rfl rfl rfl (by omega) (by assumption)) ?_
    refine rQ rfl (load_i tab_ok rfl rfl) ?_
    refine rQ rfl (len_arr tab_ok rfl rfl) ?_
    iterate 2 refine rC rfl ik0 ?_
    refine reg_on rfl rfl (by assumption) ?_
    refine rC rfl ik0 ?_
    refine reg_on rfl rfl (by assumption) ?_
    refine rC rfl ik0 ?_
    refine rQ rfl (pick_F tab_ok rfl (by assumption) rfl) ?_
    refine nS ?_
    refine wc_false rfl (by assumption) ?_
    refine wc_skip ?_
    refine seq_n ?_
    refine sR ?_
    refine rC rfl ik0 ?_
    refine nS ?_
    refine wc_block ?_
    rw [hw]
    refine wc_inv (fun j : Nat => ⟨[(5, .int .i64 j), (4, .int .i64 i), (3, .int .i64 (l.take (i + 1)).flatten.length), (0, .d (encPL l))], [], 72, Tryz.f34.ntmps, 64⟩) (fun j => j ≤ p.length ∧ ∀ o ∈ p.take j, o.data.length ≤ 70) (fun j => p.length - j) 0 [] ⟨Nat.zero_le _, by simp⟩
      (.of rfl rfl rfl rfl rfl ⟨⟨_, rfl, .refl _⟩, rfl, ⟨_, rfl, .refl _⟩, rfl, ⟨_, rfl, .refl _⟩, rfl, ⟨_, rfl, .refl _⟩, rfl, trivial⟩ trivial) ?_
    intro j hj
    obtain ⟨hj, hdat⟩ := hj
    refine wc_of ?_
    refine wc_seq ?_
    refine sR ?_
    iterate 3 refine rC rfl ik0 ?_
    refine rQ rfl (index_arr tab_ok rfl rfl rfl rfl rfl (by omega) (by assumption)) ?_
    refine rQ rfl (load_i tab_ok rfl rfl) ?_
    refine rQ rfl (len_arr tab_ok rfl rfl) ?_
    refine rC rfl ik0 ?_
    refine nS ?_
    refine wc_cond rfl (fun h4 => ?_) (fun h4 => ?_)
    · have hjl : j < p.length := by have := of_decide_eq_true h4; omega
      obtain ⟨o, ho⟩ : ∃ o, p[j]? = some o := ⟨_, List.getElem?_eq_getElem hjl⟩
      have ho' : p[((j : Int)).toNat]? = some o := by rw [Int.toNat_natCast]; exact ho
      have hbl : (byI o.data).length = o.data.length := byI_len _
      by_cases hbig : 70 < o.data.length
      · have hd3 : decide (70 < ((byI o.data).length : Int)) = true := decide_eq_true (by omega)
        rw [small_no (fun h => by have := (h.2.2 p hpm).2 o (List.mem_of_getElem? ho); omega)]
        refine wc_skip ?_
        refine seq_n ?_
        refine wc_seq ?_
        refine wc_block ?_
        refine sR ?_
        iterate 2 refine rC rfl ik0 ?_
        refine rQ rfl (index_arr tab_ok rfl rfl rfl rfl rfl (by omega) (by assumption)) ?_
        refine rQ rfl (load_i tab_ok rfl rfl) ?_
        refine rC rfl ik0 ?_
        refine rQ rfl (index_arr tab_ok rfl rfl rfl rfl rfl (by omega) (by assumption)) ?_
        refine rC rfl ik0 ?_
        refine rQ rfl (load_i tab_ok rfl rfl) ?_
        refine rQ rfl (len_arr tab_ok rfl rfl) ?_
        refine rC rfl ik0 ?_
        refine nS ?_
        refine wc_true rfl (by assumption) ?_
        refine sR ?_
        refine rC rfl ik0 ?_
        refine nS ?_
        refine wc_ret ?_
        refine blk_r ?_
        refine seq_r ?_
        refine loop_r ?_
        iterate 2 refine blk_r ?_
        refine seq_r ?_
        refine loop_r ?_
        refine blk_r ?_
        refine seq_r ?_
        exact ⟨trivial, [], .of rfl rfl rfl rfl rfl ⟨⟨_, rfl, AVLe.of_eq rfl⟩, rfl, trivial⟩ trivial⟩
      · have hd3 : decide (70 < ((byI o.data).length : Int)) = false := decide_eq_false (by omega)
        refine wc_skip ?_
        refine seq_n ?_
        refine wc_seq ?_
        refine wc_block ?_
        refine sR ?_
        iterate 2 refine rC rfl ik0 ?_
        refine rQ rfl (index_arr tab_ok rfl rfl rfl rfl rfl (by omega) (by assumption)) ?_
        refine rQ rfl (load_i tab_ok rfl rfl) ?_
        refine rC rfl ik0 ?_
        refine rQ rfl (index_arr tab_ok rfl rfl rfl rfl rfl (by omega) (by assumption)) ?_
        refine rC rfl ik0 ?_
        refine rQ rfl (load_i tab_ok rfl rfl) ?_
        refine rQ rfl (len_arr tab_ok rfl rfl) ?_
        refine rC rfl ik0 ?_
        refine nS ?_
        refine wc_false rfl (by assumption) ?_
        refine wc_skip ?_
        refine blk_n ?_
        refine seq_n ?_
        refine wc_region ?_
        refine rC rfl ik0 ?_
        refine rQ rfl (add_int tab_ok rfl rfl (wrap_i64 (by omega) (by omega))) ?_
        refine rC rfl ik0 ?_
        refine reg_nil ?_
        exact loop_n (j + 1) [] ⟨hjl, fun x hx => by rw [List.take_add_one, ho] at hx; rcases List.mem_append.1 hx with hx | hx; exact hdat x hx; rw [show x = o by simpa using hx]; omega⟩ (by omega) (.of rfl rfl rfl rfl rfl ⟨⟨_, rfl, .refl _⟩, rfl, ⟨_, rfl, .refl _⟩, rfl, ⟨_, rfl, .refl _⟩, rfl, ⟨_, rfl, .refl _⟩, rfl, trivial⟩ trivial)
    · have he : j = p.length := by have := of_decide_eq_false h4; omega
      subst he
      refine wc_exit ?_
      refine seq_x ?_
      refine loop_x ?_
      refine blk_x ?_
      refine blk_n ?_
      refine seq_n ?_
      refine wc_region ?_
      refine rC rfl ik0 ?_
      refine rQ rfl (add_int tab_ok rfl rfl (wrap_i64 (by omega) (by omega))) ?_
      refine rC rfl ik0 ?_
      refine reg_nil ?_
      exact loop_n (i + 1) [] ⟨hlt, by omega, fun x hx => by rw [List.take_add_one, hp] at hx; rcases List.mem_append.1 hx with hx | hx; exact hgood x hx; rw [show x = p by simpa using hx]; exact ⟨by omega, fun o ho => hdat o (by rw [List.take_length]; exact ho)⟩⟩ (by omega) (.of rfl rfl rfl rfl rfl ⟨⟨_, rfl, .refl _⟩, rfl, ⟨_, rfl, .refl _⟩, rfl, ⟨_, rfl, .refl _⟩, rfl, trivial⟩ trivial)
  · have he : i = l.length := by have := of_decide_eq_false h3; omega
    subst he
    rw [List.take_length] at hfl hgood
    rw [show smallB l = true from (small_iff l).2 ⟨by omega, hfl, hgood⟩]
    refine wc_exit ?_
    refine seq_x ?_
    refine loop_x ?_
    refine blk_x ?_
    refine seq_n ?_
    refine sR ?_
    refine rC rfl ik0 ?_
    refine nS ?_
    refine wc_ret ?_
    exact ⟨trivial, [], .of rfl rfl rfl rfl rfl ⟨⟨_, rfl, AVLe.of_eq rfl⟩, rfl, trivial⟩ trivial⟩
end Go.Proofs.YtmojbghcngdkpaaGreatDoor

namespace Go.Proofs.YtmojbghcngdkpaaGreatDoor
open Go.Eng Go.Plain
set_option maxHeartbeats 4000000
set_option maxRecDepth 20000
attribute [local irreducible] WC RegS RegD SeqQ BlkQ ScoQ RegK CutK Sat SatN FnIs LoopQ StepIs OpIs
abbrev r01 (b : Bool) : AV := .d (i6 (if b = true then 1 else 0))
end Go.Proofs.YtmojbghcngdkpaaGreatDoor

namespace Go.Proofs.YtmojbghcngdkpaaGreatDoor
open Go.Eng Go.Plain
set_option maxHeartbeats 4000000
set_option maxRecDepth 20000
attribute [local irreducible] WC RegS RegD SeqQ BlkQ ScoQ RegK CutK Sat SatN FnIs LoopQ StepIs OpIs
abbrev k4 (l : List POp) : D := .cons (i6 (cK 1 l)) (.cons (i6 (cK 2 l)) (.cons (i6 (cK 3 l)) (.cons (i6 (cO l)) .nil)))
end Go.Proofs.YtmojbghcngdkpaaGreatDoor

namespace Go.Proofs.YtmojbghcngdkpaaGreatDoor
open Go.Eng Go.Plain
set_option maxHeartbeats 4000000
set_option maxRecDepth 20000
attribute [local irreducible] WC RegS RegD SeqQ BlkQ ScoQ RegK CutK Sat SatN FnIs LoopQ StepIs OpIs
/-- One number looked at: what stands, and whether n stands. -/
def wStep (n : Int) (s : List Int × Bool) (x : Int) : List Int × Bool :=
  let t := if s.2 = false ∧ n ≤ x then (s.1 ++ [n], true) else s
  (if x = n then t.1 else t.1 ++ [x], t.2)
def wPre (n : Int) (l : List Int) : List Int × Bool := l.foldl (wStep n) ([], false)
def withL (l : List Int) (n : Int) : List Int := if (wPre n l).2 = true then (wPre n l).1 else (wPre n l).1 ++ [n]
def bi (b : Bool) : Int := if b then 1 else 0
abbrev rowI (l : List Int) : Row := .ds 3 1 false i6 l
end Go.Proofs.YtmojbghcngdkpaaGreatDoor

namespace Go.Proofs.YtmojbghcngdkpaaGreatDoor
open Go.Eng Go.Plain
def uB : Bool → Nat
  | true => 0
  | false => 1
/-- Whether an operation touches a block. -/
def touB (b : Int) (o : POp) : Bool := !decide (o.kind = 3) && !badO o b
def touS (b : Int) (acc : List Int) (o : POp) : List Int := if touB b o = true then withL acc o.index else acc
def touL (b : Int) (l : List POp) : List Int := l.foldl (touS b) []
end Go.Proofs.YtmojbghcngdkpaaGreatDoor

namespace Go.Proofs.YtmojbghcngdkpaaGreatDoor
open Go.Eng Go.Plain
set_option maxHeartbeats 4000000
set_option maxRecDepth 20000
attribute [local irreducible] WC RegS RegD SeqQ BlkQ ScoQ RegK CutK Sat SatN FnIs LoopQ StepIs OpIs
end Go.Proofs.YtmojbghcngdkpaaGreatDoor

namespace Go.Proofs.YtmojbghcngdkpaaGreatDoor
open Go.Eng Go.Plain
set_option maxHeartbeats 4000000
set_option maxRecDepth 20000
attribute [local irreducible] WC RegS RegD SeqQ BlkQ ScoQ RegK CutK Sat SatN FnIs LoopQ StepIs OpIs
end Go.Proofs.YtmojbghcngdkpaaGreatDoor

namespace Go.Eng
open Go.RowKit
theorem Enc.arx_arr {w : World} {X : Nat → Prop} {α : Type} {s : Nat} {enc enc' : α → D} {xs : List α} (h : ∀ x c, Enc w X (enc x) c → Enc w X (enc' x) c) : ∀ cs, Enc w X (.arx s enc xs) cs → Enc w X (.arr s enc' xs) cs := by
  intro cs hc
  rcases hc with ⟨rfl, a, rfl⟩ | ⟨a, rfl, h1, f, hf⟩
  · cases a with
    | none => exact .inl ⟨rfl, rfl⟩
    | some a => exact .inr ⟨a, 0, rfl, Nat.le_refl _, Nat.zero_le _, fun _ => [], fun i hi => absurd hi (Nat.not_lt_zero _)⟩
  · exact .inr ⟨a, xs.length, rfl, Nat.le_refl _, h1, f, fun i hi => ⟨h _ _ (hf i hi).1, (hf i hi).2⟩⟩
end Go.Eng

namespace Go.Proofs.YtmojbghcngdkpaaGreatDoor
open Go.Eng Go.Plain
set_option maxHeartbeats 4000000
set_option maxRecDepth 20000
attribute [local irreducible] WC RegS RegD SeqQ BlkQ ScoQ RegK CutK Sat SatN FnIs LoopQ StepIs OpIs
def decD : List UInt8 := [48, 49, 50, 51, 52, 53, 54, 55, 56, 57]
theorem decD_cut {d : Nat} (h : d < 10) : (decD.drop d).take (d + 1 - d) = [UInt8.ofNat (48 + d)] := by
  have : ∀ d, d < 10 → (decD.drop d).take (d + 1 - d) = [UInt8.ofNat (48 + d)] := by decide
  exact this d h
theorem numN_is : ∀ (u : Nat), u ≤ 9223372036854775807 → FnIs Tryz.prog 51 [.int .i64 u] [] (.d (strD (Lib.decDigits u))) [] := by
  intro u
  induction u using Nat.strongRecOn with
  | ind u ih =>
    intro hu
    have hmin : decide ((u : Int) = -9223372036854775808) = false := decide_eq_false (by omega)
    have hneg : decide ((u : Int) < 0) = false := decide_eq_false (by omega)
    have hw1 : IntKind.i64.wrap (((u % 10 : Nat) : Int) + 1) = ((u % 10 + 1 : Nat) : Int) := by rw [wrap_i64 (by omega) (by omega)]; rfl
    have hle : u % 10 + 1 ≤ decD.length := by show u % 10 + 1 ≤ 10; omega
    have hcut := decD_cut (d := u % 10) (by omega)
    refine fnIs_of tab_ok Tryz.func51 rfl rfl rfl ?_
    by_cases h9 : 9 < u
    · have hd : decide (9 < (u : Int)) = true := decide_eq_true (by omega)
      have hrec := ih (u / 10) (by omega) (by omega)
      have hw2 : IntKind.i64.wrap ((u / 10 : Nat) : Int) = ((u / 10 : Nat) : Int) := wrap_i64 (by omega) (by omega)
      have hlen : (Lib.decDigits (u / 10)).length + [UInt8.ofNat (48 + u % 10)].length ≤ 9223372036854775807 := by
        have := dec_len (u := u / 10) (by omega)
        simp; omega
      rw [show Lib.decDigits u = Lib.decDigits (u / 10) ++ [UInt8.ofNat (48 + u % 10)] by rw [Lib.decDigits, dif_neg (by omega)]]
      refine sR ?_
      refine rC rfl ik0 ?_
      refine nS ?_
      refine wc_seq ?_
      refine sR ?_
      iterate 2 refine rC rfl ik0 ?_
      refine nS ?_
      refine wc_false rfl rfl ?_
      refine wc_skip ?_
      refine seq_n ?_
      refine wc_seq ?_
      refine sR ?_
      iterate 2 refine rC rfl ik0 ?_
      refine nS ?_
      refine wc_false rfl rfl ?_
      refine wc_skip ?_
      refine seq_n ?_
      refine sR ?_
      refine rC rfl ik0 ?_
      refine rQ rfl (rem_nat (a := u) (b := 10) tab_ok rfl rfl rfl (by decide)) ?_
      refine rC rfl ik0 ?_
      refine rQ rfl (rem_nat (a := u) (b := 10) tab_ok rfl rfl rfl (by decide)) ?_
      refine rQ rfl (add_int (m := ((u % 10 + 1 : Nat) : Int)) tab_ok rfl rfl hw1) ?_
      refine rQ rfl (str_mid (l := decD) (lo := u % 10) (hi := u % 10 + 1) tab_ok rfl rfl rfl rfl hle (by omega) hcut) ?_
      refine rC rfl ik0 ?_
      refine nS ?_
      refine wc_seq ?_
      refine sR ?_
      iterate 2 refine rC rfl ik0 ?_
      refine nS ?_
      refine wc_true rfl (by assumption) ?_
      refine wc_region ?_
      refine rC rfl ik0 ?_
      refine rQ rfl (quo_nat (a := u) (b := 10) tab_ok rfl rfl rfl (by decide) hw2) ?_
      refine rQ rfl (call_r hrec rfl rfl (arg_e arg_nil) (.inl rfl) (fun _ => rfl)) ?_
      refine rC rfl ik0 ?_
      refine rQ rfl (add_str (a := Lib.decDigits (u / 10)) (b := [UInt8.ofNat (48 + u % 10)]) rfl rfl hlen rfl) ?_
      refine rC rfl ik0 ?_
      refine nR ?_
      iterate 2 refine rC rfl ik0 ?_
      refine nS ?_
      refine wc_ret ?_
      exact ⟨trivial, [], .of rfl rfl rfl rfl rfl ⟨⟨_, rfl, AVLe.of_eq rfl⟩, rfl, trivial⟩ trivial⟩
    · have hd : decide (9 < (u : Int)) = false := decide_eq_false (by omega)
      rw [show Lib.decDigits u = [UInt8.ofNat (48 + u % 10)] by rw [Lib.decDigits, dif_pos (by omega), Nat.mod_eq_of_lt (by omega)]]
      refine sR ?_
      refine rC rfl ik0 ?_
      refine nS ?_
      refine wc_seq ?_
      refine sR ?_
      iterate 2 refine rC rfl ik0 ?_
      refine nS ?_
      refine wc_false rfl rfl ?_
      refine wc_skip ?_
      refine seq_n ?_
      refine wc_seq ?_
      refine sR ?_
      iterate 2 refine rC rfl ik0 ?_
      refine nS ?_
      refine wc_false rfl rfl ?_
      refine wc_skip ?_
      refine seq_n ?_
      refine sR ?_
      refine rC rfl ik0 ?_
      refine rQ rfl (rem_nat (a := u) (b := 10) tab_ok rfl rfl rfl (by decide)) ?_
      refine rC rfl ik0 ?_
      refine rQ rfl (rem_nat (a := u) (b := 10) tab_ok rfl rfl rfl (by decide)) ?_
      refine rQ rfl (add_int (m := ((u % 10 + 1 : Nat) : Int)) tab_ok rfl rfl hw1) ?_
      refine rQ rfl (str_mid (l := decD) (lo := u % 10) (hi := u % 10 + 1) tab_ok rfl rfl rfl rfl hle (by omega) hcut) ?_
      refine rC rfl ik0 ?_
      refine nS ?_
      refine wc_seq ?_
      refine sR ?_
      iterate 2 refine rC rfl ik0 ?_
      refine nS ?_
      refine wc_false rfl (by assumption) ?_
      refine wc_skip ?_
      refine seq_n ?_
      refine sR ?_
      iterate 2 refine rC rfl ik0 ?_
      refine nS ?_
      refine wc_ret ?_
      exact ⟨trivial, [], .of rfl rfl rfl rfl rfl ⟨⟨_, rfl, AVLe.of_eq rfl⟩, rfl, trivial⟩ trivial⟩
theorem number_is (n : Int) (h0 : -9223372036854775808 ≤ n) (h1 : n ≤ 9223372036854775807) : FnIs Tryz.prog 51 [.int .i64 n] [] (.d (strD (Lib.itoa n))) [] := by
  by_cases hn : n < 0
  · by_cases hm : n = -9223372036854775808
    · subst hm
      rw [show Lib.itoa (-9223372036854775808) = [45, 57, 50, 50, 51, 51, 55, 50, 48, 51, 54, 56, 53, 52, 55, 55, 53, 56, 48, 56] by decide +kernel]
      refine fnIs_of tab_ok Tryz.func51 rfl rfl rfl ?_
      refine sR ?_
      refine rC rfl ik0 ?_
      refine nS ?_
      refine wc_seq ?_
      refine sR ?_
      iterate 2 refine rC rfl ik0 ?_
      refine nS ?_
      refine wc_true rfl rfl ?_
      refine sR ?_
      refine rC rfl ik0 ?_
      refine nS ?_
      refine wc_ret ?_
      refine seq_r ?_
      exact ⟨trivial, [], .of rfl rfl rfl rfl rfl ⟨⟨_, rfl, AVLe.of_eq rfl⟩, rfl, trivial⟩ trivial⟩
    · have hmin : decide (n = -9223372036854775808) = false := decide_eq_false hm
      have hneg : decide (n < 0) = true := decide_eq_true hn
      have hrec := numN_is n.natAbs (by omega)
      have hlen : [(45 : UInt8)].length + (Lib.decDigits n.natAbs).length ≤ 9223372036854775807 := by
        have := dec_len (u := n.natAbs) (by omega)
        simp; omega
      have hwn : IntKind.i64.wrap (-n) = (n.natAbs : Int) := by rw [wrap_i64 (by omega) (by omega)]; omega
      rw [show Lib.itoa n = [45] ++ Lib.decDigits n.natAbs by rw [Lib.itoa, if_pos hn]; rfl]
      refine fnIs_of tab_ok Tryz.func51 rfl rfl rfl ?_
      refine sR ?_
      refine rC rfl ik0 ?_
      refine nS ?_
      refine wc_seq ?_
      refine sR ?_
      iterate 2 refine rC rfl ik0 ?_
      refine nS ?_
      refine wc_false rfl (by assumption) ?_
      refine wc_skip ?_
      refine seq_n ?_
      refine wc_seq ?_
      refine sR ?_
      iterate 2 refine rC rfl ik0 ?_
      refine nS ?_
      refine wc_true rfl (by assumption) ?_
      refine sR ?_
      refine rC rfl ik0 ?_
      refine rQ rfl (step_C tab_ok (fun K hk => ⟨_, hwn, hk⟩)) ?_
      refine rQ rfl (call_r hrec rfl rfl (arg_e arg_nil) (.inl rfl) (fun _ => rfl)) ?_
      refine rQ rfl (add_str (a := [45]) (b := Lib.decDigits n.natAbs) rfl rfl hlen rfl) ?_
      refine rC rfl ik0 ?_
      refine nS ?_
      refine wc_ret ?_
      refine seq_r ?_
      exact ⟨trivial, [], .of rfl rfl rfl rfl rfl ⟨⟨_, rfl, AVLe.of_eq rfl⟩, rfl, trivial⟩ trivial⟩
  · have := numN_is n.toNat (by omega)
    rw [show ((n.toNat : Nat) : Int) = n by omega] at this
    rwa [show Lib.itoa n = Lib.decDigits n.toNat by rw [Lib.itoa, if_neg hn]]
end Go.Proofs.YtmojbghcngdkpaaGreatDoor

namespace Go.Proofs.YtmojbghcngdkpaaGreatDoor
open Go.Eng Go.Plain
set_option maxHeartbeats 4000000
set_option maxRecDepth 20000
attribute [local irreducible] WC RegS RegD SeqQ BlkQ ScoQ RegK CutK Sat SatN FnIs LoopQ StepIs OpIs
theorem hexD_cut {d : Nat} (h : d < 16) : (hexD.drop d).take (d + 1 - d) = [hexC d] := by
  have : ∀ d, d < 16 → (hexD.drop d).take (d + 1 - d) = [hexC d] := by decide
  exact this d h
theorem rhex_is (l : List UInt8) (hL : l.length ≤ 1000000000) : FnIs Tryz.prog 120 [.d (encB l)] [] (.d (strD (hexP l))) [] := by
  have hbl : (byI l).length = l.length := byI_len l
  refine fnIs_of tab_ok Tryz.func120 rfl rfl rfl ?_
  refine sR ?_
  refine rC rfl ik0 ?_
  refine nR ?_
  refine rC rfl ik0 ?_
  refine nS ?_
  refine wc_seq ?_
  refine sR ?_
  refine rC rfl ik0 ?_
  refine nS ?_
  refine wc_block ?_
  refine wc_inv (fun i : Nat => ⟨[(4, .int .i64 i), (3, .d (strD ((l.take i).flatMap hexB))), (0, .d (encB l))], [], 72, Tryz.f120.ntmps, 64⟩) (fun i => i ≤ l.length) (fun i => l.length - i) 0 [] (Nat.zero_le _)
    (.of rfl rfl rfl rfl rfl ⟨⟨_, rfl, .refl _⟩, rfl, ⟨_, rfl, .refl _⟩, rfl, ⟨_, rfl, .refl _⟩, rfl, trivial⟩ trivial) ?_
  intro i hi
  refine wc_of ?_
  refine wc_seq ?_
  refine sR ?_
  iterate 2 refine rC rfl ik0 ?_
  refine rQ rfl (len_arr tab_ok rfl rfl) ?_
  refine rC rfl ik0 ?_
  refine nS ?_
  refine wc_cond rfl (fun h3 => ?_) (fun h3 => ?_)
  · have hlt : i < l.length := by have := of_decide_eq_true h3; omega
    obtain ⟨b, hb⟩ : ∃ b, l[i]? = some b := ⟨_, List.getElem?_eq_getElem hlt⟩
    have hb' : (byI l)[((i : Int)).toNat]? = some (b.toNat : Int) := by rw [Int.toNat_natCast]; exact byI_get hb
    have hb8 : b.toNat < 256 := b.toNat_lt
    have hw1 : IntKind.u8.wrap (((b.toNat / 16 : Nat) : Int) + 1) = ((b.toNat / 16 + 1 : Nat) : Int) := wrap_u8n (a := b.toNat / 16 + 1) (by omega)
    have hw2 : IntKind.u8.wrap (((b.toNat % 16 : Nat) : Int) + 1) = ((b.toNat % 16 + 1 : Nat) : Int) := wrap_u8n (a := b.toNat % 16 + 1) (by omega)
    have hle1 : b.toNat / 16 + 1 ≤ hexD.length := by show _ ≤ 16; omega
    have hle2 : b.toNat % 16 + 1 ≤ hexD.length := by show _ ≤ 16; omega
    have hcut1 := hexD_cut (d := b.toNat / 16) (by omega)
    have hcut2 := hexD_cut (d := b.toNat % 16) (by omega)
    have hpl : ((l.take i).flatMap hexB).length = 2 * i := by rw [hexB_len, List.length_take, Nat.min_eq_left hi]
    have hlen1 : ((l.take i).flatMap hexB).length + [hexC (b.toNat / 16)].length ≤ 9223372036854775807 := by rw [hpl]; simp; omega
    have hlen2 : ((l.take i).flatMap hexB ++ [hexC (b.toNat / 16)]).length + [hexC (b.toNat % 16)].length ≤ 9223372036854775807 := by rw [List.length_append, hpl]; simp; omega
    have hgo := hex_take hb
    refine wc_skip ?_
    refine seq_n ?_
    refine wc_seq ?_
    refine wc_block ?_
    refine wc_seq ?_
    refine wc_draw (by kernel_rfl) ?_
    refine dreg_q [0] [] rfl (step_C tab_ok (fun K hk => hk)) ?_
    refine dreg_q [4] [] rfl (step_C tab_ok (fun K hk => hk)) ?_
    refine dreg_q [13, 14] [] rfl (index_arr tab_ok rfl rfl rfl rfl rfl (by omega) (by assumption)) ?_
    refine dreg_q [15] [] rfl (load_i tab_ok rfl rfl) ?_
    refine dreg_q [16] [] rfl (shr_nat (a := b.toNat) (s := 4) (m := b.toNat / 16) rfl rfl (by decide) rfl) ?_
    refine dreg_q [0] [] rfl (step_C tab_ok (fun K hk => hk)) ?_
    refine dreg_q [4] [] rfl (step_C tab_ok (fun K hk => hk)) ?_
    refine dreg_q [18, 19] [] rfl (index_arr tab_ok rfl rfl rfl rfl rfl (by omega) (by assumption)) ?_
    refine dreg_q [20] [] rfl (load_i tab_ok rfl rfl) ?_
    refine dreg_q [21] [] rfl (and_nat (a := b.toNat) (b := 15) (m := b.toNat % 16) rfl rfl rfl hb8 (by decide) (Nat.and_two_pow_sub_one_eq_mod b.toNat 4)) ?_
    refine dreg_q [17] [] rfl (step_C tab_ok (fun K hk => hk)) ?_
    refine dreg_q [22] [] rfl (step_C tab_ok (fun K hk => hk)) ?_
    refine dreg_end (by kernel_rfl) ?_
    refine seq_n ?_
    refine wc_draw (by kernel_rfl) ?_
    refine dreg_q [3] [] rfl (step_C tab_ok (fun K hk => hk)) ?_
    iterate 2 refine dreg_q [5] [] rfl (step_C tab_ok (fun K hk => hk)) ?_
    refine dreg_q [25] [] rfl (add_int (m := ((b.toNat / 16 + 1 : Nat) : Int)) tab_ok rfl rfl hw1) ?_
    refine dreg_q [24, 26] [] rfl (str_mid (l := hexD) (lo := b.toNat / 16) (hi := b.toNat / 16 + 1) tab_ok rfl rfl rfl rfl hle1 (by omega) hcut1) ?_
    refine dreg_q [23, 27] [] rfl (add_str (a := (l.take i).flatMap hexB) (b := [hexC (b.toNat / 16)]) rfl rfl hlen1 rfl) ?_
    iterate 2 refine dreg_q [6] [] rfl (step_C tab_ok (fun K hk => hk)) ?_
    refine dreg_q [30] [] rfl (add_int (m := ((b.toNat % 16 + 1 : Nat) : Int)) tab_ok rfl rfl hw2) ?_
    refine dreg_q [29, 31] [] rfl (str_mid (l := hexD) (lo := b.toNat % 16) (hi := b.toNat % 16 + 1) tab_ok rfl rfl rfl rfl hle2 (by omega) hcut2) ?_
    refine dreg_q [28, 32] [] rfl (add_str (a := (l.take i).flatMap hexB ++ [hexC (b.toNat / 16)]) (b := [hexC (b.toNat % 16)]) rfl rfl hlen2 rfl) ?_
    refine dreg_q [33] [] rfl (step_C tab_ok (fun K hk => hk)) ?_
    refine dreg_end (by kernel_rfl) ?_
    refine blk_n ?_
    refine seq_n ?_
    refine wc_region ?_
    refine rC rfl ik0 ?_
    refine rQ rfl (add_int tab_ok rfl rfl (wrap_i64 (by omega) (by omega))) ?_
    refine rC rfl ik0 ?_
    refine reg_nil ?_
    exact loop_n (i + 1) [] hlt (by omega) (.of rfl rfl rfl rfl rfl ⟨⟨_, rfl, .refl _⟩, rfl, ⟨_, rfl, AVLe.of_eq (by rw [hgo]; rfl)⟩, rfl, ⟨_, rfl, .refl _⟩, rfl, trivial⟩ trivial)
  · have he : i = l.length := by have := of_decide_eq_false h3; omega
    subst he
    rw [List.take_length]
    by_cases hn : l = []
    · have hd : decide (l.flatMap hexB = []) = true := by rw [hn]; rfl
      rw [show hexP l = [45] from if_pos hn]
      refine wc_exit ?_
      refine seq_x ?_
      refine loop_x ?_
      refine blk_x ?_
      refine seq_n ?_
      refine wc_seq ?_
      refine sR ?_
      refine rC rfl ik0 ?_
      refine rQ rfl (eql_s (a := l.flatMap hexB) (b := []) tab_ok rfl rfl rfl) ?_
      refine nS ?_
      refine wc_true rfl (by assumption) ?_
      refine wc_region ?_
      refine rC rfl ik0 ?_
      refine nR ?_
      iterate 2 refine rC rfl ik0 ?_
      refine nS ?_
      refine wc_ret ?_
      exact ⟨trivial, [], .of rfl rfl rfl rfl rfl ⟨⟨_, rfl, AVLe.of_eq rfl⟩, rfl, trivial⟩ trivial⟩
    · have hd : decide (l.flatMap hexB = []) = false := decide_eq_false fun e => hn (by
        have := hexB_len l
        rw [e] at this
        exact List.eq_nil_of_length_eq_zero (by simp at this; omega))
      rw [show hexP l = l.flatMap hexB from if_neg hn]
      refine wc_exit ?_
      refine seq_x ?_
      refine loop_x ?_
      refine blk_x ?_
      refine seq_n ?_
      refine wc_seq ?_
      refine sR ?_
      refine rC rfl ik0 ?_
      refine rQ rfl (eql_s (a := l.flatMap hexB) (b := []) tab_ok rfl rfl rfl) ?_
      refine nS ?_
      refine wc_false rfl (by assumption) ?_
      refine wc_skip ?_
      refine seq_n ?_
      refine sR ?_
      iterate 2 refine rC rfl ik0 ?_
      refine nS ?_
      refine wc_ret ?_
      exact ⟨trivial, [], .of rfl rfl rfl rfl rfl ⟨⟨_, rfl, AVLe.of_eq rfl⟩, rfl, trivial⟩ trivial⟩
end Go.Proofs.YtmojbghcngdkpaaGreatDoor

namespace Go.Proofs.YtmojbghcngdkpaaGreatDoor
open Go.Eng Go.Plain
set_option maxHeartbeats 4000000
set_option maxRecDepth 20000
attribute [local irreducible] WC RegS RegD SeqQ BlkQ ScoQ RegK CutK Sat SatN FnIs LoopQ StepIs OpIs
theorem rline_read (o : POp) (hok : o.Ok) (hL : o.data.length ≤ 1000000000) (hk : o.kind = 1) (hd0 : o.data = []) : FnIs Tryz.prog 85 [.d (encPOp o)] [] (.d (strD (lineP o))) [] := by
  obtain ⟨⟨kk0, kk1⟩, h0, h1⟩ := hok
  have k0 : -9223372036854775808 ≤ o.kind := by omega
  have k1 : o.kind ≤ 9223372036854775807 := by omega
  have hwk : IntKind.i64.wrap o.kind = o.kind := wrap_i64 (by omega) (by omega)
  have l1 := itoa_len h0 h1
  have l2 := itoa_len k0 k1
  have l3 := hexP_len o.data
  have hk1 : decide (o.kind = 1) = true := decide_eq_true (by omega)
  have hd := len0_iff o.data true (decide_eq_true hd0)
  rw [show lineP o = sRead ++ [32] ++ Lib.itoa o.index by rw [lineP, if_pos ⟨hk, hd0⟩]; simp]
  refine fnIs_of tab_ok Tryz.func85 rfl rfl rfl ?_
  refine sR ?_
  refine reg_new (step_C tab_ok (fun K hk => hk)) rfl ?_
  refine rC rfl ik0 ?_
  refine nS ?_
  refine wc_seq ?_
  refine sR ?_
  refine rC rfl ik0 ?_
  refine rQ rfl (load_box tab_ok rfl rfl ⟨_, rfl, rfl⟩ rfl) ?_
  iterate 2 refine rC rfl ik0 ?_
  refine reg_on rfl rfl (by assumption) ?_
  refine rC rfl ik0 ?_
  refine reg_on rfl rfl (by assumption) ?_
  refine rQ rfl (load_box tab_ok rfl rfl ⟨_, rfl, rfl⟩ rfl) ?_
  refine reg_on rfl rfl (by assumption) ?_
  refine rQ rfl (len_arr tab_ok rfl rfl) ?_
  refine reg_on rfl rfl (by assumption) ?_
  refine rC rfl ik0 ?_
  refine rQ rfl (pick_T tab_ok rfl (by assumption) rfl) ?_
  refine nS ?_
  refine wc_true rfl (by assumption) ?_
  refine sR ?_
  refine rC rfl ik0 ?_
  refine rQ rfl (load_box tab_ok rfl rfl ⟨_, rfl, rfl⟩ rfl) ?_
  refine rQ rfl (call_r (number_is _ h0 h1) rfl rfl (arg_e arg_nil) (.inl rfl) (fun _ => rfl)) ?_
  refine rQ rfl (add_str (a := sRead ++ [32]) (b := Lib.itoa o.index) rfl rfl (by simp [sRead]; omega) rfl) ?_
  refine rC rfl ik0 ?_
  refine nS ?_
  refine wc_ret ?_
  refine seq_r ?_
  exact ⟨trivial, [], .of rfl rfl rfl rfl rfl ⟨⟨_, rfl, AVLe.of_eq rfl⟩, rfl, trivial⟩ trivial⟩
theorem rline_write (o : POp) (hok : o.Ok) (hL : o.data.length ≤ 1000000000) (hk : o.kind = 2) : FnIs Tryz.prog 85 [.d (encPOp o)] [] (.d (strD (lineP o))) [] := by
  obtain ⟨⟨kk0, kk1⟩, h0, h1⟩ := hok
  have k0 : -9223372036854775808 ≤ o.kind := by omega
  have k1 : o.kind ≤ 9223372036854775807 := by omega
  have hwk : IntKind.i64.wrap o.kind = o.kind := wrap_i64 (by omega) (by omega)
  have l1 := itoa_len h0 h1
  have l2 := itoa_len k0 k1
  have l3 := hexP_len o.data
  have hk1 : decide (o.kind = 1) = false := decide_eq_false (by omega)
  have hk2 : decide (o.kind = 2) = true := decide_eq_true (by omega)
  rw [show lineP o = sWrite ++ [32] ++ Lib.itoa o.index ++ [32] ++ hexP o.data by rw [lineP, if_neg (fun h => by have := h.1; omega), if_pos hk]; simp]
  refine fnIs_of tab_ok Tryz.func85 rfl rfl rfl ?_
  refine sR ?_
  refine reg_new (step_C tab_ok (fun K hk => hk)) rfl ?_
  refine rC rfl ik0 ?_
  refine nS ?_
  refine wc_seq ?_
  refine sR ?_
  refine rC rfl ik0 ?_
  refine rQ rfl (load_box tab_ok rfl rfl ⟨_, rfl, rfl⟩ rfl) ?_
  iterate 2 refine rC rfl ik0 ?_
  iterate 4 refine reg_skip rfl rfl (by assumption) rfl rfl ?_
  refine rQ rfl (pick_F tab_ok rfl (by assumption) rfl) ?_
  refine nS ?_
  refine wc_false rfl rfl ?_
  refine wc_skip ?_
  refine seq_n ?_
  refine wc_seq ?_
  refine sR ?_
  refine rC rfl ik0 ?_
  refine rQ rfl (load_box tab_ok rfl rfl ⟨_, rfl, rfl⟩ rfl) ?_
  refine rC rfl ik0 ?_
  refine nS ?_
  refine wc_true rfl (by assumption) ?_
  refine wc_seq ?_
  refine wc_draw (by kernel_rfl) ?_
  refine dreg_q [1] [64] rfl (step_C tab_ok (fun K hk => hk)) ?_
  refine dreg_q [19] [64] rfl (load_box tab_ok rfl rfl ⟨_, rfl, rfl⟩ rfl) ?_
  refine dreg_q [20] [] rfl (call_r (number_is _ h0 h1) rfl rfl (arg_e arg_nil) (.inl rfl) (fun _ => rfl)) ?_
  refine dreg_q [21] [] rfl (add_str (a := sWrite ++ [32]) (b := Lib.itoa o.index) rfl rfl (by simp [sWrite]; omega) rfl) ?_
  refine dreg_q [22] [] rfl (add_str (a := sWrite ++ [32] ++ Lib.itoa o.index) (b := [32]) rfl rfl (by simp [sWrite]; omega) rfl) ?_
  refine dreg_q [1] [64] rfl (step_C tab_ok (fun K hk => hk)) ?_
  refine dreg_q [24] [64] rfl (load_box tab_ok rfl rfl ⟨_, rfl, rfl⟩ rfl) ?_
  refine dreg_q [25] [] rfl (call_r (rhex_is o.data hL) rfl rfl (arg_e arg_nil) (.inl rfl) (fun _ => rfl)) ?_
  refine dreg_q [23, 26] [] rfl (add_str (a := sWrite ++ [32] ++ Lib.itoa o.index ++ [32]) (b := hexP o.data) rfl rfl (by simp [sWrite]; omega) rfl) ?_
  refine dreg_q [27] [] rfl (step_C tab_ok (fun K hk => hk)) ?_
  refine dreg_end (by kernel_rfl) ?_
  refine seq_n ?_
  refine wc_ret ?_
  refine seq_r ?_
  exact ⟨trivial, [], .of rfl rfl rfl rfl rfl ⟨⟨_, rfl, AVLe.of_eq rfl⟩, rfl, trivial⟩ trivial⟩
theorem rline_flush (o : POp) (hok : o.Ok) (hL : o.data.length ≤ 1000000000) (hk : o.kind = 3) (hi0 : o.index = 0) (hd0 : o.data = []) : FnIs Tryz.prog 85 [.d (encPOp o)] [] (.d (strD (lineP o))) [] := by
  obtain ⟨⟨kk0, kk1⟩, h0, h1⟩ := hok
  have k0 : -9223372036854775808 ≤ o.kind := by omega
  have k1 : o.kind ≤ 9223372036854775807 := by omega
  have hwk : IntKind.i64.wrap o.kind = o.kind := wrap_i64 (by omega) (by omega)
  have l1 := itoa_len h0 h1
  have l2 := itoa_len k0 k1
  have l3 := hexP_len o.data
  have hk1 : decide (o.kind = 1) = false := decide_eq_false (by omega)
  have hk2 : decide (o.kind = 2) = false := decide_eq_false (by omega)
  have hk3 : decide (o.kind = 3) = true := decide_eq_true (by omega)
  have hd := len0_iff o.data true (decide_eq_true hd0)
  have hi : decide (o.index = 0) = true := decide_eq_true hi0
  rw [show lineP o = sFlush by rw [lineP, if_neg (fun h => by have := h.1; omega), if_neg (by omega), if_pos ⟨hk, hi0, hd0⟩]]
  refine fnIs_of tab_ok Tryz.func85 rfl rfl rfl ?_
  refine sR ?_
  refine reg_new (step_C tab_ok (fun K hk => hk)) rfl ?_
  refine rC rfl ik0 ?_
  refine nS ?_
  refine wc_seq ?_
  refine sR ?_
  refine rC rfl ik0 ?_
  refine rQ rfl (load_box tab_ok rfl rfl ⟨_, rfl, rfl⟩ rfl) ?_
  iterate 2 refine rC rfl ik0 ?_
  iterate 4 refine reg_skip rfl rfl (by assumption) rfl rfl ?_
  refine rQ rfl (pick_F tab_ok rfl (by assumption) rfl) ?_
  refine nS ?_
  refine wc_false rfl rfl ?_
  refine wc_skip ?_
  refine seq_n ?_
  refine wc_seq ?_
  refine sR ?_
  refine rC rfl ik0 ?_
  refine rQ rfl (load_box tab_ok rfl rfl ⟨_, rfl, rfl⟩ rfl) ?_
  refine rC rfl ik0 ?_
  refine nS ?_
  refine wc_false rfl (by assumption) ?_
  refine wc_skip ?_
  refine seq_n ?_
  refine wc_seq ?_
  refine sR ?_
  refine rC rfl ik0 ?_
  refine rQ rfl (load_box tab_ok rfl rfl ⟨_, rfl, rfl⟩ rfl) ?_
  iterate 2 refine rC rfl ik0 ?_
  refine reg_on rfl rfl (by assumption) ?_
  refine rC rfl ik0 ?_
  refine reg_on rfl rfl (by assumption) ?_
  refine rQ rfl (load_box tab_ok rfl rfl ⟨_, rfl, rfl⟩ rfl) ?_
  refine reg_on rfl rfl (by assumption) ?_
  refine rC rfl ik0 ?_
  refine rQ rfl (pick_T tab_ok rfl (by assumption) rfl) ?_
  refine rC rfl ik0 ?_
  refine reg_on rfl rfl (by assumption) ?_
  refine rC rfl ik0 ?_
  refine reg_on rfl rfl (by assumption) ?_
  refine rQ rfl (load_box tab_ok rfl rfl ⟨_, rfl, rfl⟩ rfl) ?_
  refine reg_on rfl rfl (by assumption) ?_
  refine rQ rfl (len_arr tab_ok rfl rfl) ?_
  refine reg_on rfl rfl (by assumption) ?_
  refine rC rfl ik0 ?_
  refine rQ rfl (pick_T tab_ok rfl (by assumption) rfl) ?_
  refine nS ?_
  refine wc_true rfl (by assumption) ?_
  refine sR ?_
  refine rC rfl ik0 ?_
  refine nS ?_
  refine wc_ret ?_
  refine seq_r ?_
  exact ⟨trivial, [], .of rfl rfl rfl rfl rfl ⟨⟨_, rfl, AVLe.of_eq rfl⟩, rfl, trivial⟩ trivial⟩
theorem rline_op1 (o : POp) (hok : o.Ok) (hL : o.data.length ≤ 1000000000) (hk : o.kind = 1) (hd0 : ¬ o.data = []) : FnIs Tryz.prog 85 [.d (encPOp o)] [] (.d (strD (lineP o))) [] := by
  obtain ⟨⟨kk0, kk1⟩, h0, h1⟩ := hok
  have k0 : -9223372036854775808 ≤ o.kind := by omega
  have k1 : o.kind ≤ 9223372036854775807 := by omega
  have hwk : IntKind.i64.wrap o.kind = o.kind := wrap_i64 (by omega) (by omega)
  have l1 := itoa_len h0 h1
  have l2 := itoa_len k0 k1
  have l3 := hexP_len o.data
  have hk1 : decide (o.kind = 1) = true := decide_eq_true (by omega)
  have hk2 : decide (o.kind = 2) = false := decide_eq_false (by omega)
  have hk3 : decide (o.kind = 3) = false := decide_eq_false (by omega)
  have hd := len0_iff o.data false (decide_eq_false hd0)
  rw [show lineP o = sOp ++ [32] ++ Lib.itoa o.kind ++ [32] ++ Lib.itoa o.index ++ [32] ++ hexP o.data by rw [lineP, if_neg (fun h => hd0 h.2), if_neg (by omega), if_neg (fun h => by have := h.1; omega)]; simp]
  refine fnIs_of tab_ok Tryz.func85 rfl rfl rfl ?_
  refine sR ?_
  refine reg_new (step_C tab_ok (fun K hk => hk)) rfl ?_
  refine rC rfl ik0 ?_
  refine nS ?_
  refine wc_seq ?_
  refine sR ?_
  refine rC rfl ik0 ?_
  refine rQ rfl (load_box tab_ok rfl rfl ⟨_, rfl, rfl⟩ rfl) ?_
  iterate 2 refine rC rfl ik0 ?_
  refine reg_on rfl rfl (by assumption) ?_
  refine rC rfl ik0 ?_
  refine reg_on rfl rfl (by assumption) ?_
  refine rQ rfl (load_box tab_ok rfl rfl ⟨_, rfl, rfl⟩ rfl) ?_
  refine reg_on rfl rfl (by assumption) ?_
  refine rQ rfl (len_arr tab_ok rfl rfl) ?_
  refine reg_on rfl rfl (by assumption) ?_
  refine rC rfl ik0 ?_
  refine rQ rfl (pick_T tab_ok rfl (by assumption) rfl) ?_
  refine nS ?_
  refine wc_false rfl (by assumption) ?_
  refine wc_skip ?_
  refine seq_n ?_
  refine wc_seq ?_
  refine sR ?_
  refine rC rfl ik0 ?_
  refine rQ rfl (load_box tab_ok rfl rfl ⟨_, rfl, rfl⟩ rfl) ?_
  refine rC rfl ik0 ?_
  refine nS ?_
  refine wc_false rfl (by assumption) ?_
  refine wc_skip ?_
  refine seq_n ?_
  refine wc_seq ?_
  refine sR ?_
  refine rC rfl ik0 ?_
  refine rQ rfl (load_box tab_ok rfl rfl ⟨_, rfl, rfl⟩ rfl) ?_
  iterate 2 refine rC rfl ik0 ?_
  iterate 3 refine reg_skip rfl rfl (by assumption) rfl rfl ?_
  refine rQ rfl (pick_F tab_ok rfl (by assumption) rfl) ?_
  refine rC rfl ik0 ?_
  iterate 4 refine reg_skip rfl rfl rfl rfl rfl ?_
  refine rQ rfl (pick_F tab_ok rfl rfl rfl) ?_
  refine nS ?_
  refine wc_false rfl rfl ?_
  refine wc_skip ?_
  refine seq_n ?_
  refine wc_seq ?_
  refine wc_draw (by kernel_rfl) ?_
  refine dreg_q [1] [64] rfl (step_C tab_ok (fun K hk => hk)) ?_
  refine dreg_q [42] [64] rfl (load_box tab_ok rfl rfl ⟨_, rfl, rfl⟩ rfl) ?_
  refine dreg_q [43] [] rfl (conv_int (m := o.kind) tab_ok rfl rfl rfl hwk) ?_
  refine dreg_q [44] [] rfl (call_r (number_is _ k0 k1) rfl rfl (arg_e arg_nil) (.inl rfl) (fun _ => rfl)) ?_
  refine dreg_q [45] [] rfl (add_str (a := sOp ++ [32]) (b := Lib.itoa o.kind) rfl rfl (by simp [sOp]; omega) rfl) ?_
  refine dreg_q [46] [] rfl (add_str (a := sOp ++ [32] ++ Lib.itoa o.kind) (b := [32]) rfl rfl (by simp [sOp]; omega) rfl) ?_
  refine dreg_q [1] [64] rfl (step_C tab_ok (fun K hk => hk)) ?_
  refine dreg_q [48] [64] rfl (load_box tab_ok rfl rfl ⟨_, rfl, rfl⟩ rfl) ?_
  refine dreg_q [49] [] rfl (call_r (number_is _ h0 h1) rfl rfl (arg_e arg_nil) (.inl rfl) (fun _ => rfl)) ?_
  refine dreg_q [47, 50] [] rfl (add_str (a := sOp ++ [32] ++ Lib.itoa o.kind ++ [32]) (b := Lib.itoa o.index) rfl rfl (by simp [sOp]; omega) rfl) ?_
  refine dreg_q [51] [] rfl (add_str (a := sOp ++ [32] ++ Lib.itoa o.kind ++ [32] ++ Lib.itoa o.index) (b := [32]) rfl rfl (by simp [sOp]; omega) rfl) ?_
  refine dreg_q [1] [64] rfl (step_C tab_ok (fun K hk => hk)) ?_
  refine dreg_q [53] [64] rfl (load_box tab_ok rfl rfl ⟨_, rfl, rfl⟩ rfl) ?_
  refine dreg_q [54] [] rfl (call_r (rhex_is o.data hL) rfl rfl (arg_e arg_nil) (.inl rfl) (fun _ => rfl)) ?_
  refine dreg_q [52, 55] [] rfl (add_str (a := sOp ++ [32] ++ Lib.itoa o.kind ++ [32] ++ Lib.itoa o.index ++ [32]) (b := hexP o.data) rfl rfl (by simp [sOp]; omega) rfl) ?_
  refine dreg_q [56] [] rfl (step_C tab_ok (fun K hk => hk)) ?_
  refine dreg_end (by kernel_rfl) ?_
  refine seq_n ?_
  refine wc_ret ?_
  exact ⟨trivial, [], .of rfl rfl rfl rfl rfl ⟨⟨_, rfl, AVLe.of_eq rfl⟩, rfl, trivial⟩ trivial⟩
theorem rline_op2 (o : POp) (hok : o.Ok) (hL : o.data.length ≤ 1000000000) (hk1 : ¬ o.kind = 1) (hk2 : ¬ o.kind = 2) (hk3 : ¬ o.kind = 3) : FnIs Tryz.prog 85 [.d (encPOp o)] [] (.d (strD (lineP o))) [] := by
  obtain ⟨⟨kk0, kk1⟩, h0, h1⟩ := hok
  have k0 : -9223372036854775808 ≤ o.kind := by omega
  have k1 : o.kind ≤ 9223372036854775807 := by omega
  have hwk : IntKind.i64.wrap o.kind = o.kind := wrap_i64 (by omega) (by omega)
  have l1 := itoa_len h0 h1
  have l2 := itoa_len k0 k1
  have l3 := hexP_len o.data
  have hk1 : decide (o.kind = 1) = false := decide_eq_false (by omega)
  have hk2 : decide (o.kind = 2) = false := decide_eq_false (by omega)
  have hk3 : decide (o.kind = 3) = false := decide_eq_false (by omega)
  rw [show lineP o = sOp ++ [32] ++ Lib.itoa o.kind ++ [32] ++ Lib.itoa o.index ++ [32] ++ hexP o.data by rw [lineP, if_neg (fun h => by have := h.1; omega), if_neg (by omega), if_neg (fun h => by have := h.1; omega)]; simp]
  refine fnIs_of tab_ok Tryz.func85 rfl rfl rfl ?_
  refine sR ?_
  refine reg_new (step_C tab_ok (fun K hk => hk)) rfl ?_
  refine rC rfl ik0 ?_
  refine nS ?_
  refine wc_seq ?_
  refine sR ?_
  refine rC rfl ik0 ?_
  refine rQ rfl (load_box tab_ok rfl rfl ⟨_, rfl, rfl⟩ rfl) ?_
  iterate 2 refine rC rfl ik0 ?_
  iterate 4 refine reg_skip rfl rfl (by assumption) rfl rfl ?_
  refine rQ rfl (pick_F tab_ok rfl (by assumption) rfl) ?_
  refine nS ?_
  refine wc_false rfl rfl ?_
  refine wc_skip ?_
  refine seq_n ?_
  refine wc_seq ?_
  refine sR ?_
  refine rC rfl ik0 ?_
  refine rQ rfl (load_box tab_ok rfl rfl ⟨_, rfl, rfl⟩ rfl) ?_
  refine rC rfl ik0 ?_
  refine nS ?_
  refine wc_false rfl (by assumption) ?_
  refine wc_skip ?_
  refine seq_n ?_
  refine wc_seq ?_
  refine sR ?_
  refine rC rfl ik0 ?_
  refine rQ rfl (load_box tab_ok rfl rfl ⟨_, rfl, rfl⟩ rfl) ?_
  iterate 2 refine rC rfl ik0 ?_
  iterate 3 refine reg_skip rfl rfl (by assumption) rfl rfl ?_
  refine rQ rfl (pick_F tab_ok rfl (by assumption) rfl) ?_
  refine rC rfl ik0 ?_
  iterate 4 refine reg_skip rfl rfl rfl rfl rfl ?_
  refine rQ rfl (pick_F tab_ok rfl rfl rfl) ?_
  refine nS ?_
  refine wc_false rfl rfl ?_
  refine wc_skip ?_
  refine seq_n ?_
  refine wc_seq ?_
  refine wc_draw (by kernel_rfl) ?_
  refine dreg_q [1] [64] rfl (step_C tab_ok (fun K hk => hk)) ?_
  refine dreg_q [42] [64] rfl (load_box tab_ok rfl rfl ⟨_, rfl, rfl⟩ rfl) ?_
  refine dreg_q [43] [] rfl (conv_int (m := o.kind) tab_ok rfl rfl rfl hwk) ?_
  refine dreg_q [44] [] rfl (call_r (number_is _ k0 k1) rfl rfl (arg_e arg_nil) (.inl rfl) (fun _ => rfl)) ?_
  refine dreg_q [45] [] rfl (add_str (a := sOp ++ [32]) (b := Lib.itoa o.kind) rfl rfl (by simp [sOp]; omega) rfl) ?_
  refine dreg_q [46] [] rfl (add_str (a := sOp ++ [32] ++ Lib.itoa o.kind) (b := [32]) rfl rfl (by simp [sOp]; omega) rfl) ?_
  refine dreg_q [1] [64] rfl (step_C tab_ok (fun K hk => hk)) ?_
  refine dreg_q [48] [64] rfl (load_box tab_ok rfl rfl ⟨_, rfl, rfl⟩ rfl) ?_
  refine dreg_q [49] [] rfl (call_r (number_is _ h0 h1) rfl rfl (arg_e arg_nil) (.inl rfl) (fun _ => rfl)) ?_
  refine dreg_q [47, 50] [] rfl (add_str (a := sOp ++ [32] ++ Lib.itoa o.kind ++ [32]) (b := Lib.itoa o.index) rfl rfl (by simp [sOp]; omega) rfl) ?_
  refine dreg_q [51] [] rfl (add_str (a := sOp ++ [32] ++ Lib.itoa o.kind ++ [32] ++ Lib.itoa o.index) (b := [32]) rfl rfl (by simp [sOp]; omega) rfl) ?_
  refine dreg_q [1] [64] rfl (step_C tab_ok (fun K hk => hk)) ?_
  refine dreg_q [53] [64] rfl (load_box tab_ok rfl rfl ⟨_, rfl, rfl⟩ rfl) ?_
  refine dreg_q [54] [] rfl (call_r (rhex_is o.data hL) rfl rfl (arg_e arg_nil) (.inl rfl) (fun _ => rfl)) ?_
  refine dreg_q [52, 55] [] rfl (add_str (a := sOp ++ [32] ++ Lib.itoa o.kind ++ [32] ++ Lib.itoa o.index ++ [32]) (b := hexP o.data) rfl rfl (by simp [sOp]; omega) rfl) ?_
  refine dreg_q [56] [] rfl (step_C tab_ok (fun K hk => hk)) ?_
  refine dreg_end (by kernel_rfl) ?_
  refine seq_n ?_
  refine wc_ret ?_
  exact ⟨trivial, [], .of rfl rfl rfl rfl rfl ⟨⟨_, rfl, AVLe.of_eq rfl⟩, rfl, trivial⟩ trivial⟩
theorem rline_op3 (o : POp) (hok : o.Ok) (hL : o.data.length ≤ 1000000000) (hk : o.kind = 3) (hi0 : ¬ o.index = 0) : FnIs Tryz.prog 85 [.d (encPOp o)] [] (.d (strD (lineP o))) [] := by
  obtain ⟨⟨kk0, kk1⟩, h0, h1⟩ := hok
  have k0 : -9223372036854775808 ≤ o.kind := by omega
  have k1 : o.kind ≤ 9223372036854775807 := by omega
  have hwk : IntKind.i64.wrap o.kind = o.kind := wrap_i64 (by omega) (by omega)
  have l1 := itoa_len h0 h1
  have l2 := itoa_len k0 k1
  have l3 := hexP_len o.data
  have hk1 : decide (o.kind = 1) = false := decide_eq_false (by omega)
  have hk2 : decide (o.kind = 2) = false := decide_eq_false (by omega)
  have hk3 : decide (o.kind = 3) = true := decide_eq_true (by omega)
  have hi : decide (o.index = 0) = false := decide_eq_false hi0
  rw [show lineP o = sOp ++ [32] ++ Lib.itoa o.kind ++ [32] ++ Lib.itoa o.index ++ [32] ++ hexP o.data by rw [lineP, if_neg (fun h => by have := h.1; omega), if_neg (by omega), if_neg (fun h => hi0 h.2.1)]; simp]
  refine fnIs_of tab_ok Tryz.func85 rfl rfl rfl ?_
  refine sR ?_
  refine reg_new (step_C tab_ok (fun K hk => hk)) rfl ?_
  refine rC rfl ik0 ?_
  refine nS ?_
  refine wc_seq ?_
  refine sR ?_
  refine rC rfl ik0 ?_
  refine rQ rfl (load_box tab_ok rfl rfl ⟨_, rfl, rfl⟩ rfl) ?_
  iterate 2 refine rC rfl ik0 ?_
  iterate 4 refine reg_skip rfl rfl (by assumption) rfl rfl ?_
  refine rQ rfl (pick_F tab_ok rfl (by assumption) rfl) ?_
  refine nS ?_
  refine wc_false rfl rfl ?_
  refine wc_skip ?_
  refine seq_n ?_
  refine wc_seq ?_
  refine sR ?_
  refine rC rfl ik0 ?_
  refine rQ rfl (load_box tab_ok rfl rfl ⟨_, rfl, rfl⟩ rfl) ?_
  refine rC rfl ik0 ?_
  refine nS ?_
  refine wc_false rfl (by assumption) ?_
  refine wc_skip ?_
  refine seq_n ?_
  refine wc_seq ?_
  refine sR ?_
  refine rC rfl ik0 ?_
  refine rQ rfl (load_box tab_ok rfl rfl ⟨_, rfl, rfl⟩ rfl) ?_
  iterate 2 refine rC rfl ik0 ?_
  refine reg_on rfl rfl (by assumption) ?_
  refine rC rfl ik0 ?_
  refine reg_on rfl rfl (by assumption) ?_
  refine rQ rfl (load_box tab_ok rfl rfl ⟨_, rfl, rfl⟩ rfl) ?_
  refine reg_on rfl rfl (by assumption) ?_
  refine rC rfl ik0 ?_
  refine rQ rfl (pick_T tab_ok rfl (by assumption) rfl) ?_
  refine rC rfl ik0 ?_
  iterate 4 refine reg_skip rfl rfl (by assumption) rfl rfl ?_
  refine rQ rfl (pick_F tab_ok rfl (by assumption) rfl) ?_
  refine nS ?_
  refine wc_false rfl rfl ?_
  refine wc_skip ?_
  refine seq_n ?_
  refine wc_seq ?_
  refine wc_draw (by kernel_rfl) ?_
  refine dreg_q [1] [64] rfl (step_C tab_ok (fun K hk => hk)) ?_
  refine dreg_q [42] [64] rfl (load_box tab_ok rfl rfl ⟨_, rfl, rfl⟩ rfl) ?_
  refine dreg_q [43] [] rfl (conv_int (m := o.kind) tab_ok rfl rfl rfl hwk) ?_
  refine dreg_q [44] [] rfl (call_r (number_is _ k0 k1) rfl rfl (arg_e arg_nil) (.inl rfl) (fun _ => rfl)) ?_
  refine dreg_q [45] [] rfl (add_str (a := sOp ++ [32]) (b := Lib.itoa o.kind) rfl rfl (by simp [sOp]; omega) rfl) ?_
  refine dreg_q [46] [] rfl (add_str (a := sOp ++ [32] ++ Lib.itoa o.kind) (b := [32]) rfl rfl (by simp [sOp]; omega) rfl) ?_
  refine dreg_q [1] [64] rfl (step_C tab_ok (fun K hk => hk)) ?_
  refine dreg_q [48] [64] rfl (load_box tab_ok rfl rfl ⟨_, rfl, rfl⟩ rfl) ?_
  refine dreg_q [49] [] rfl (call_r (number_is _ h0 h1) rfl rfl (arg_e arg_nil) (.inl rfl) (fun _ => rfl)) ?_
  refine dreg_q [47, 50] [] rfl (add_str (a := sOp ++ [32] ++ Lib.itoa o.kind ++ [32]) (b := Lib.itoa o.index) rfl rfl (by simp [sOp]; omega) rfl) ?_
  refine dreg_q [51] [] rfl (add_str (a := sOp ++ [32] ++ Lib.itoa o.kind ++ [32] ++ Lib.itoa o.index) (b := [32]) rfl rfl (by simp [sOp]; omega) rfl) ?_
  refine dreg_q [1] [64] rfl (step_C tab_ok (fun K hk => hk)) ?_
  refine dreg_q [53] [64] rfl (load_box tab_ok rfl rfl ⟨_, rfl, rfl⟩ rfl) ?_
  refine dreg_q [54] [] rfl (call_r (rhex_is o.data hL) rfl rfl (arg_e arg_nil) (.inl rfl) (fun _ => rfl)) ?_
  refine dreg_q [52, 55] [] rfl (add_str (a := sOp ++ [32] ++ Lib.itoa o.kind ++ [32] ++ Lib.itoa o.index ++ [32]) (b := hexP o.data) rfl rfl (by simp [sOp]; omega) rfl) ?_
  refine dreg_q [56] [] rfl (step_C tab_ok (fun K hk => hk)) ?_
  refine dreg_end (by kernel_rfl) ?_
  refine seq_n ?_
  refine wc_ret ?_
  exact ⟨trivial, [], .of rfl rfl rfl rfl rfl ⟨⟨_, rfl, AVLe.of_eq rfl⟩, rfl, trivial⟩ trivial⟩
theorem rline_op4 (o : POp) (hok : o.Ok) (hL : o.data.length ≤ 1000000000) (hk : o.kind = 3) (hi0 : o.index = 0) (hd0 : ¬ o.data = []) : FnIs Tryz.prog 85 [.d (encPOp o)] [] (.d (strD (lineP o))) [] := by
  obtain ⟨⟨kk0, kk1⟩, h0, h1⟩ := hok
  have k0 : -9223372036854775808 ≤ o.kind := by omega
  have k1 : o.kind ≤ 9223372036854775807 := by omega
  have hwk : IntKind.i64.wrap o.kind = o.kind := wrap_i64 (by omega) (by omega)
  have l1 := itoa_len h0 h1
  have l2 := itoa_len k0 k1
  have l3 := hexP_len o.data
  have hk1 : decide (o.kind = 1) = false := decide_eq_false (by omega)
  have hk2 : decide (o.kind = 2) = false := decide_eq_false (by omega)
  have hk3 : decide (o.kind = 3) = true := decide_eq_true (by omega)
  have hi : decide (o.index = 0) = true := decide_eq_true hi0
  have hd := len0_iff o.data false (decide_eq_false hd0)
  rw [show lineP o = sOp ++ [32] ++ Lib.itoa o.kind ++ [32] ++ Lib.itoa o.index ++ [32] ++ hexP o.data by rw [lineP, if_neg (fun h => by have := h.1; omega), if_neg (by omega), if_neg (fun h => hd0 h.2.2)]; simp]
  refine fnIs_of tab_ok Tryz.func85 rfl rfl rfl ?_
  refine sR ?_
  refine reg_new (step_C tab_ok (fun K hk => hk)) rfl ?_
  refine rC rfl ik0 ?_
  refine nS ?_
  refine wc_seq ?_
  refine sR ?_
  refine rC rfl ik0 ?_
  refine rQ rfl (load_box tab_ok rfl rfl ⟨_, rfl, rfl⟩ rfl) ?_
  iterate 2 refine rC rfl ik0 ?_
  iterate 4 refine reg_skip rfl rfl (by assumption) rfl rfl ?_
  refine rQ rfl (pick_F tab_ok rfl (by assumption) rfl) ?_
  refine nS ?_
  refine wc_false rfl rfl ?_
  refine wc_skip ?_
  refine seq_n ?_
  refine wc_seq ?_
  refine sR ?_
  refine rC rfl ik0 ?_
  refine rQ rfl (load_box tab_ok rfl rfl ⟨_, rfl, rfl⟩ rfl) ?_
  refine rC rfl ik0 ?_
  refine nS ?_
  refine wc_false rfl (by assumption) ?_
  refine wc_skip ?_
  refine seq_n ?_
  refine wc_seq ?_
  refine sR ?_
  refine rC rfl ik0 ?_
  refine rQ rfl (load_box tab_ok rfl rfl ⟨_, rfl, rfl⟩ rfl) ?_
  iterate 2 refine rC rfl ik0 ?_
  refine reg_on rfl rfl (by assumption) ?_
  refine rC rfl ik0 ?_
  refine reg_on rfl rfl (by assumption) ?_
  refine rQ rfl (load_box tab_ok rfl rfl ⟨_, rfl, rfl⟩ rfl) ?_
  refine reg_on rfl rfl (by assumption) ?_
  refine rC rfl ik0 ?_
  refine rQ rfl (pick_T tab_ok rfl (by assumption) rfl) ?_
  refine rC rfl ik0 ?_
  refine reg_on rfl rfl (by assumption) ?_
  refine rC rfl ik0 ?_
  refine reg_on rfl rfl (by assumption) ?_
  refine rQ rfl (load_box tab_ok rfl rfl ⟨_, rfl, rfl⟩ rfl) ?_
  refine reg_on rfl rfl (by assumption) ?_
  refine rQ rfl (len_arr tab_ok rfl rfl) ?_
  refine reg_on rfl rfl (by assumption) ?_
  refine rC rfl ik0 ?_
  refine rQ rfl (pick_T tab_ok rfl (by assumption) rfl) ?_
  refine nS ?_
  refine wc_false rfl (by assumption) ?_
  refine wc_skip ?_
  refine seq_n ?_
  refine wc_seq ?_
  refine wc_draw (by kernel_rfl) ?_
  refine dreg_q [1] [64] rfl (step_C tab_ok (fun K hk => hk)) ?_
  refine dreg_q [42] [64] rfl (load_box tab_ok rfl rfl ⟨_, rfl, rfl⟩ rfl) ?_
  refine dreg_q [43] [] rfl (conv_int (m := o.kind) tab_ok rfl rfl rfl hwk) ?_
  refine dreg_q [44] [] rfl (call_r (number_is _ k0 k1) rfl rfl (arg_e arg_nil) (.inl rfl) (fun _ => rfl)) ?_
  refine dreg_q [45] [] rfl (add_str (a := sOp ++ [32]) (b := Lib.itoa o.kind) rfl rfl (by simp [sOp]; omega) rfl) ?_
  refine dreg_q [46] [] rfl (add_str (a := sOp ++ [32] ++ Lib.itoa o.kind) (b := [32]) rfl rfl (by simp [sOp]; omega) rfl) ?_
  refine dreg_q [1] [64] rfl (step_C tab_ok (fun K hk => hk)) ?_
  refine dreg_q [48] [64] rfl (load_box tab_ok rfl rfl ⟨_, rfl, rfl⟩ rfl) ?_
  refine dreg_q [49] [] rfl (call_r (number_is _ h0 h1) rfl rfl (arg_e arg_nil) (.inl rfl) (fun _ => rfl)) ?_
  refine dreg_q [47, 50] [] rfl (add_str (a := sOp ++ [32] ++ Lib.itoa o.kind ++ [32]) (b := Lib.itoa o.index) rfl rfl (by simp [sOp]; omega) rfl) ?_
  refine dreg_q [51] [] rfl (add_str (a := sOp ++ [32] ++ Lib.itoa o.kind ++ [32] ++ Lib.itoa o.index) (b := [32]) rfl rfl (by simp [sOp]; omega) rfl) ?_
  refine dreg_q [1] [64] rfl (step_C tab_ok (fun K hk => hk)) ?_
  refine dreg_q [53] [64] rfl (load_box tab_ok rfl rfl ⟨_, rfl, rfl⟩ rfl) ?_
  refine dreg_q [54] [] rfl (call_r (rhex_is o.data hL) rfl rfl (arg_e arg_nil) (.inl rfl) (fun _ => rfl)) ?_
  refine dreg_q [52, 55] [] rfl (add_str (a := sOp ++ [32] ++ Lib.itoa o.kind ++ [32] ++ Lib.itoa o.index ++ [32]) (b := hexP o.data) rfl rfl (by simp [sOp]; omega) rfl) ?_
  refine dreg_q [56] [] rfl (step_C tab_ok (fun K hk => hk)) ?_
  refine dreg_end (by kernel_rfl) ?_
  refine seq_n ?_
  refine wc_ret ?_
  exact ⟨trivial, [], .of rfl rfl rfl rfl rfl ⟨⟨_, rfl, AVLe.of_eq rfl⟩, rfl, trivial⟩ trivial⟩
theorem rline_is (o : POp) (hok : o.Ok) (hL : o.data.length ≤ 1000000000) : FnIs Tryz.prog 85 [.d (encPOp o)] [] (.d (strD (lineP o))) [] := by
  by_cases k1 : o.kind = 1
  · by_cases hd : o.data = []
    · exact rline_read o hok hL k1 hd
    · exact rline_op1 o hok hL k1 hd
  by_cases k2 : o.kind = 2
  · exact rline_write o hok hL k2
  by_cases k3 : o.kind = 3
  · by_cases hi : o.index = 0
    · by_cases hd : o.data = []
      · exact rline_flush o hok hL k3 hi hd
      · exact rline_op4 o hok hL k3 hi hd
    · exact rline_op3 o hok hL k3 hi
  · exact rline_op2 o hok hL k1 k2 k3
end Go.Proofs.YtmojbghcngdkpaaGreatDoor

namespace Go.Proofs.YtmojbghcngdkpaaGreatDoor
open Go.Eng Go.Plain
set_option maxHeartbeats 4000000
set_option maxRecDepth 20000
attribute [local irreducible] WC RegS RegD SeqQ BlkQ ScoQ RegK CutK Sat SatN FnIs LoopQ StepIs OpIs
theorem rtext_is (l : List (List POp)) (hok : OkL l) (hL : l.length ≤ 1000000) (hP : ∀ p ∈ l, p.length ≤ 1000000 ∧ ∀ o ∈ p, o.data.length ≤ 1000000000) (hT : (textP l).length ≤ 1000000000000) : FnIs Tryz.prog 39 [.d (encPL l)] [] (.d (strD (textP l))) [] := by
  refine fnIs_of tab_ok Tryz.func39 rfl rfl rfl ?_
  refine sR ?_
  refine rC rfl ik0 ?_
  refine nR ?_
  refine rC rfl ik0 ?_
  refine nS ?_
  refine wc_seq ?_
  refine sR ?_
  refine rC rfl ik0 ?_
  refine nS ?_
  refine wc_block ?_
  refine wc_inv (fun i : Nat => ⟨[(4, .int .i64 i), (3, .d (strD (textP (l.take i)))), (0, .d (encPL l))], [], 72, Tryz.f39.ntmps, 64⟩) (fun i => i ≤ l.length) (fun i => l.length - i) 0 [] (Nat.zero_le _)
    (.of rfl rfl rfl rfl rfl ⟨⟨_, rfl, .refl _⟩, rfl, ⟨_, rfl, .refl _⟩, rfl, ⟨_, rfl, .refl _⟩, rfl, trivial⟩ trivial) ?_
  intro i hi
  refine wc_of ?_
  refine wc_seq ?_
  refine sR ?_
  iterate 2 refine rC rfl ik0 ?_
  refine rQ rfl (len_arr tab_ok rfl rfl) ?_
  refine rC rfl ik0 ?_
  refine nS ?_
  refine wc_cond rfl (fun h3 => ?_) (fun h3 => ?_)
  · have hlt : i < l.length := by have := of_decide_eq_true h3; omega
    obtain ⟨p, hp⟩ : ∃ p, l[i]? = some p := ⟨_, List.getElem?_eq_getElem hlt⟩
    have hp' : l[((i : Int)).toNat]? = some p := by rw [Int.toNat_natCast]; exact hp
    have hpm := List.mem_of_getElem? hp
    have hpB := (hP p hpm).1
    have hz := partT_le (j := 0) hp
    have hpz := partT_zero l i p
    have hlc : (textP (l.take i)).length + (sClient ++ [10]).length ≤ 9223372036854775807 := by rw [hpz, List.length_append] at hz; omega
    refine wc_skip ?_
    refine seq_n ?_
    refine wc_seq ?_
    refine wc_block ?_
    refine sR ?_
    refine rC rfl ik0 ?_
    refine rQ rfl (add_str (a := textP (l.take i)) (b := sClient ++ [10]) rfl rfl hlc rfl) ?_
    refine rC rfl ik0 ?_
    refine nR ?_
    refine rC rfl ik0 ?_
    refine nS ?_
    refine wc_block ?_
    refine wc_inv (fun j : Nat => ⟨[(5, .int .i64 j), (4, .int .i64 i), (3, .d (strD (partT l i p j))), (0, .d (encPL l))], [], 72, Tryz.f39.ntmps, 64⟩) (fun j => j ≤ p.length) (fun j => p.length - j) 0 [] (Nat.zero_le _)
      (.of rfl rfl rfl rfl rfl ⟨⟨_, rfl, .refl _⟩, rfl, ⟨_, rfl, .refl _⟩, rfl, ⟨_, rfl, AVLe.of_eq (by rw [hpz]; rfl)⟩, rfl, ⟨_, rfl, .refl _⟩, rfl, trivial⟩ trivial) ?_
    intro j hj
    refine wc_of ?_
    refine wc_seq ?_
    refine sR ?_
    iterate 3 refine rC rfl ik0 ?_
    refine rQ rfl (index_arr tab_ok rfl rfl rfl rfl rfl (by omega) (by assumption)) ?_
    refine rQ rfl (load_i tab_ok rfl rfl) ?_
    refine rQ rfl (len_arr tab_ok rfl rfl) ?_
    refine rC rfl ik0 ?_
    refine nS ?_
    refine wc_cond rfl (fun h4 => ?_) (fun h4 => ?_)
    · have hjl : j < p.length := by have := of_decide_eq_true h4; omega
      obtain ⟨o, ho⟩ : ∃ o, p[j]? = some o := ⟨_, List.getElem?_eq_getElem hjl⟩
      have ho' : p[((j : Int)).toNat]? = some o := by rw [Int.toNat_natCast]; exact ho
      have hom := List.mem_of_getElem? ho
      have hline := rline_is o (hok p hpm o hom) ((hP p hpm).2 o hom)
      have hgo := partT_go (l := l) (i := i) ho
      have hpl := partT_le (j := j + 1) hp
      rw [← hgo, List.length_append, List.length_append] at hpl
      have hl1 : (partT l i p j).length + (lineP o).length ≤ 9223372036854775807 := by omega
      have hl2 : (partT l i p j ++ lineP o).length + [(10 : UInt8)].length ≤ 9223372036854775807 := by rw [List.length_append]; omega
      have hs : partT l i p (j + 1) = partT l i p j ++ lineP o ++ [10] := by rw [← hgo, List.append_assoc]
      refine wc_skip ?_
      refine seq_n ?_
      refine wc_seq ?_
      refine wc_block ?_
      refine wc_region ?_
      iterate 3 refine rC rfl ik0 ?_
      refine rQ rfl (index_arr tab_ok rfl rfl rfl rfl rfl (by omega) (by assumption)) ?_
      refine rQ rfl (load_i tab_ok rfl rfl) ?_
      refine rC rfl ik0 ?_
      refine rQ rfl (index_arr tab_ok rfl rfl rfl rfl rfl (by omega) (by assumption)) ?_
      refine rQ rfl (load_i tab_ok rfl rfl) ?_
      refine rQ rfl (call_r hline rfl rfl (arg_e arg_nil) (.inl rfl) (fun _ => rfl)) ?_
      refine rQ rfl (add_str (a := partT l i p j) (b := lineP o) rfl rfl hl1 rfl) ?_
      refine rQ rfl (add_str (a := partT l i p j ++ lineP o) (b := [10]) rfl rfl hl2 rfl) ?_
      refine rC rfl ik0 ?_
      refine reg_nil ?_
      refine blk_n ?_
      refine seq_n ?_
      refine wc_region ?_
      refine rC rfl ik0 ?_
      refine rQ rfl (add_int tab_ok rfl rfl (wrap_i64 (by omega) (by omega))) ?_
      refine rC rfl ik0 ?_
      refine reg_nil ?_
      exact loop_n (j + 1) [] hjl (by omega) (.of rfl rfl rfl rfl rfl ⟨⟨_, rfl, .refl _⟩, rfl, ⟨_, rfl, .refl _⟩, rfl, ⟨_, rfl, AVLe.of_eq (by rw [hs]; rfl)⟩, rfl, ⟨_, rfl, .refl _⟩, rfl, trivial⟩ trivial)
    · have he : j = p.length := by have := of_decide_eq_false h4; omega
      subst he
      refine wc_exit ?_
      refine seq_x ?_
      refine loop_x ?_
      refine blk_x ?_
      refine blk_n ?_
      refine seq_n ?_
      refine wc_region ?_
      refine rC rfl ik0 ?_
      refine rQ rfl (add_int tab_ok rfl rfl (wrap_i64 (by omega) (by omega))) ?_
      refine rC rfl ik0 ?_
      refine reg_nil ?_
      exact loop_n (i + 1) [] hlt (by omega) (.of rfl rfl rfl rfl rfl ⟨⟨_, rfl, .refl _⟩, rfl, ⟨_, rfl, AVLe.of_eq (by rw [partT_end hp]; rfl)⟩, rfl, ⟨_, rfl, .refl _⟩, rfl, trivial⟩ trivial)
  · have he : i = l.length := by have := of_decide_eq_false h3; omega
    subst he
    rw [List.take_length]
    refine wc_exit ?_
    refine seq_x ?_
    refine loop_x ?_
    refine blk_x ?_
    refine seq_n ?_
    refine sR ?_
    iterate 2 refine rC rfl ik0 ?_
    refine nS ?_
    refine wc_ret ?_
    exact ⟨trivial, [], .of rfl rfl rfl rfl rfl ⟨⟨_, rfl, AVLe.of_eq rfl⟩, rfl, trivial⟩ trivial⟩
end Go.Proofs.YtmojbghcngdkpaaGreatDoor

namespace Go.Plain
open Go.Eng Go.Lib
end Go.Plain

namespace Go.Proofs.YtmojbghcngdkpaaGreatDoor
open Go.Eng Go.Plain
set_option maxHeartbeats 4000000
set_option maxRecDepth 20000
attribute [local irreducible] WC RegS RegD SeqQ BlkQ ScoQ RegK CutK Sat SatN FnIs LoopQ StepIs OpIs
end Go.Proofs.YtmojbghcngdkpaaGreatDoor

namespace Go.Proofs.YtmojbghcngdkpaaGreatDoor
open Go.Eng Go.Plain
set_option maxHeartbeats 4000000
set_option maxRecDepth 20000
attribute [local irreducible] WC RegS RegD SeqQ BlkQ ScoQ RegK CutK Sat SatN FnIs LoopQ StepIs OpIs
def o1 {α : Type} (o : Option α) : Int := match o with
  | some _ => 1
  | none => 0
abbrev intRes (o : Option Int) : AV := .tup (.acons (.int .i64 (o.getD 0)) (.acons (.int .i64 (o1 o)) .anil))
end Go.Proofs.YtmojbghcngdkpaaGreatDoor

namespace Go.Proofs.YtmojbghcngdkpaaGreatDoor
open Go.Eng Go.Plain
set_option maxHeartbeats 4000000
set_option maxRecDepth 20000
attribute [local irreducible] WC RegS RegD SeqQ BlkQ ScoQ RegK CutK Sat SatN FnIs LoopQ StepIs OpIs
def nV (l : List UInt8) : Nat := l.foldl (fun n c => n * 16 + nibV c) 0
abbrev byR (o : Option (List UInt8)) : AV := .tup (.acons (.d (encB (o.getD []))) (.acons (.int .i64 (o1 o)) .anil))
end Go.Proofs.YtmojbghcngdkpaaGreatDoor

namespace Go.Proofs.YtmojbghcngdkpaaGreatDoor
open Go.Eng Go.Plain
set_option maxHeartbeats 4000000
set_option maxRecDepth 20000
set_option linter.unusedVariables false
set_option linter.unusedSimpArgs false
attribute [local irreducible] WC RegS RegD SeqQ BlkQ ScoQ RegK CutK Sat SatN FnIs LoopQ StepIs OpIs
abbrev readA (o : Option POp) : AV := .tup (.acons (.d (encPOp (o.getD opNil))) (.acons (.int .i64 (o1 o)) .anil))
def finR (s : List UInt8) (o : Option POp) : Option POp := match o with
  | some o => if lineP o = s then some o else none
  | none => none
def op4 (o : Option Int) (x y : List UInt8) : Option POp := match o with
  | some k => Plain.opR k x y
  | none => none
end Go.Proofs.YtmojbghcngdkpaaGreatDoor

namespace Go.Eng
open Go.RowKit Go.Sort
abbrev encI64 (n : Int) : D := .sc (.int .i64 n)
theorem cat_i64 (l : List Int) : cat (fun i => [Value.int .i64 (l.getD i 0)]) l.length = l.map (Value.int .i64) := by
  have key : ∀ n, n ≤ l.length → cat (fun i => [Value.int .i64 (l.getD i 0)]) n = (l.take n).map (Value.int .i64) := by
    intro n
    induction n with
    | zero => intro _; rfl
    | succ n ih =>
      intro hn
      have hlt : n < l.length := by omega
      have e : l.take (n + 1) = l.take n ++ [l[n]] := by rw [List.take_add_one, List.getElem?_eq_getElem hlt]; rfl
      have e2 : l.getD n 0 = l[n] := by rw [List.getD_eq_getElem?_getD, List.getElem?_eq_getElem hlt]; rfl
      rw [cat, ih (by omega), e, List.map_append, e2]
      rfl
  rw [key _ (Nat.le_refl _), List.take_length]
theorem cat_i64' {w : World} {X : Nat → Prop} {f : Nat → List Value} {l : List Int} (hf : ∀ i (h : i < l.length), Enc w X (encI64 l[i]) (f i) ∧ (f i).length = 1) : cat f l.length = l.map (Value.int .i64) := by
  rw [← cat_i64]
  refine cat_congr _ fun i hi => ?_
  obtain ⟨⟨h1, _⟩, _⟩ := hf i hi
  rw [h1, List.getD_eq_getElem?_getD, List.getElem?_eq_getElem hi]
  rfl
theorem put_take {ys : List Int} {cur : Array Value} (h : ys.length ≤ cur.size) : (putCells (Value.int .i64) 0 ys.toArray cur).toList.take ys.length = ys.map (Value.int .i64) := by
  apply List.ext_getElem?
  intro k
  rw [List.getElem?_take]
  by_cases hk : k < ys.length
  · rw [if_pos hk, Array.getElem?_toList, putCells, Array.getElem?_mapIdx, Array.getElem?_eq_getElem (by omega)]
    simp only [Option.map_some, Nat.zero_le, true_and, Nat.zero_add, List.size_toArray, hk, if_true, Nat.sub_zero]
    rw [List.getElem?_map, List.getElem?_eq_getElem hk]
    simp [hk]
  · rw [if_neg hk, List.getElem?_eq_none (by simp; omega)]
variable {P : Program}
/-- A row of ints, changed in place. -/
theorem FnIs.of_calls_ints {f : FuncId} {t : TypeId} {ex : Bool} {xs ys : List Int} {res : AV} {rv : Nat → Nat → Value} (hne : 0 < xs.length) (hl : ys.length = xs.length)
    (hfn : ∃ fn, P.funcs[f]? = some fn ∧ (fn.name == "runtime.NumGoroutine") = false ∧ fn.body.isNone = false)
    (hres : ∀ (σ : Place) (w : World) (X : Nat → Prop) (b c : Nat), σ 0 = some (b, c) → xs.length ≤ c → RelV σ w X res (rv b c)) (hin : res.within (fun r => r < 72))
    (h : ∀ (w : World) (b c : Nat), b < w.heap.size → Holds (Value.int .i64) w b 0 xs.toArray → xs.length ≤ c →
      Calls P f #[.slice (some ⟨b, 0, none⟩) xs.length c] w fun e w' => e = .returned (rv b c) ∧ ∃ n os, w' = grow (putRow (Value.int .i64) (Sort.ahead w n) b 0 ys.toArray) os) :
    FnIs P f [.own 0 0 xs.length 1 none] [(0, .ds t 1 ex encI64 xs)] res [(0, .ds t 1 ex encI64 ys)] := by
  refine ⟨hfn, fun C σ w vs hbs hB hw hσ hro hst => ?_⟩
  have hlen : vs.length = 1 := by have := hst.sz; simpa [inSt] using this
  obtain ⟨v, rfl⟩ : ∃ v, vs = [v] := by
    match vs, hlen with
    | [v], _ => exact ⟨v, rfl⟩
  have hr0 : (inSt [.own 0 0 xs.length 1 none] [(0, Row.ds t 1 ex encI64 xs)]).row 0 = some (Row.ds t 1 ex encI64 xs) := rfl
  obtain ⟨u, hu, hv⟩ := hst.env 0 _ rfl
  simp only [List.getElem?_toArray, List.getElem?_cons_zero, Option.some.injEq] at hu
  subst hu
  have hv : Rel σ w ((inSt [.own 0 0 xs.length 1 none] [(0, Row.ds t 1 ex encI64 xs)]).X C.X0 σ) (.own 0 0 xs.length 1 none) false [v] := by
    unfold RelV at hv
    simpa [AV.isAgg] using hv
  rcases hst.rows 0 _ hr0 with ⟨_, h2⟩ | ⟨b, c, cur, h1, h0, h2, h3, h4, h5, g, hg, h6⟩
  · rw [h2] at hne; exact absurd hne (by decide)
  rcases hv with ⟨h7, _⟩ | ⟨b', c', a, h7, h8, _, _, _, h9⟩
  · rw [h1] at h7; cases h7
  rw [h1] at h7
  cases h7
  obtain rfl := h9 (by omega)
  have hv2 : v = .slice (some ⟨b, 0, none⟩) xs.length c := by simpa using h8
  subst hv2
  have hblt : b < w.heap.size := (Array.getElem?_eq_some_iff.1 h2).1
  rw [Nat.mul_one] at h3 h6
  rw [cat_i64' hg] at h6
  have hH : Holds (Value.int .i64) w b 0 xs.toArray := by
    intro j hj
    simp only [List.size_toArray] at hj
    refine ⟨?_, ?_⟩
    · simp only [World.cell?, h2, Nat.zero_add]
      have := congrArg (fun l => l[j]?) h6
      simp only [List.getElem?_take, if_pos hj, Array.getElem?_toList, List.getElem?_map] at this
      rw [this, List.getElem?_eq_getElem hj]
      simp [hj]
    · simp only [World.frozen?, h2]
      simp
  refine (h w b c hblt hH h4).mono ?_
  rintro e w' ⟨rfl, n, os, rfl⟩
  refine ⟨_, σ, rfl, ?_⟩
  have hnew : (grow (putRow (Value.int .i64) (Sort.ahead w n) b 0 ys.toArray) os).heap[b]? = some (.cells (putCells (Value.int .i64) 0 ys.toArray cur) t (0, 0)) := by
    show ((w.heap.modify b _) ++ os)[b]? = _
    rw [Array.getElem?_append_left (by simpa using hblt), Array.getElem?_modify, if_pos rfl, h2]
    rfl
  have hother : ∀ k, k ≠ b → k < w.heap.size → (grow (putRow (Value.int .i64) (Sort.ahead w n) b 0 ys.toArray) os).heap[k]? = w.heap[k]? := by
    intro k hk hkl
    show ((w.heap.modify b _) ++ os)[k]? = _
    rw [Array.getElem?_append_left (by simpa using hkl), Array.getElem?_modify, if_neg (Ne.symm hk)]
  have hMb : C.M b := by
    rcases hst.high _ _ _ _ hr0 h1 with hh | hh
    · omega
    · exact hh
  have hX : (resSt res [(0, Row.ds t 1 ex encI64 ys)]).X C.X0 σ = (inSt [.own 0 0 xs.length 1 none] [(0, Row.ds t 1 ex encI64 xs)]).X C.X0 σ := by
    funext x
    apply propext
    constructor
    · rintro (hx | ⟨r, row, c', h5, h6⟩)
      · exact .inl hx
      · by_cases e : 0 = r
        · subst e; exact .inr ⟨0, _, c', hr0, h6⟩
        · simp only [resSt, someRows, St.row, lk_cons, if_neg e, lk] at h5; cases h5
    · rintro (hx | ⟨r, row, c', h5, h6⟩)
      · exact .inl hx
      · by_cases e : 0 = r
        · subst e; exact .inr ⟨0, _, c', rfl, h6⟩
        · simp only [inSt, someRows, St.row, lk_cons, if_neg e, lk] at h5; cases h5
  have hbm : BelowM C.B C.M w (grow (putRow (Value.int .i64) (Sort.ahead w n) b 0 ys.toArray) os) := by
    refine ⟨rfl, rfl, rfl, ?_, fun k hk hm => hother k (by rintro rfl; exact hm hMb) (by omega), fun k o ho hb => ?_⟩
    · show w.heap.size ≤ ((w.heap.modify b _) ++ os).size
      simp
    · have hk : k < w.heap.size := (Array.getElem?_eq_some_iff.1 ho).1
      exact (hother k (by rintro rfl; rw [h2] at ho; cases ho; cases hb) hk).trans ho
  exact
    { env := fun i x hi => by
        by_cases e : i = 0
        · subst e
          simp only [resSt, lk_cons, if_pos, Option.some.injEq] at hi
          subst hi
          exact ⟨_, rfl, hres _ _ _ _ _ h1 h4⟩
        · simp only [resSt, lk_cons, if_neg (Ne.symm e), lk] at hi
          cases hi
      envG := fun i x hi => by
        by_cases e : i = 0
        · subst e
          simp only [resSt, lk_cons, if_pos, Option.some.injEq] at hi
          subst hi
          exact hin
        · simp only [resSt, lk_cons, if_neg (Ne.symm e), lk] at hi
          cases hi
      rows := fun r row hr => by
        by_cases e : 0 = r
        · subst e
          simp only [resSt, someRows, St.row, lk_cons, if_pos, Option.bind_some, id, Option.some.injEq] at hr
          subst hr
          refine .inr ⟨b, c, _, h1, fun hex => by rw [hl]; exact h0 hex, hnew, by rw [Nat.mul_one]; simpa [putCells] using h3, by omega, h5, fun i => [.int .i64 (ys.getD i 0)], fun i hi => ⟨⟨?_, rfl⟩, rfl⟩, ?_⟩
          · show [Value.int .i64 (ys.getD i 0)] = _
            rw [List.getD_eq_getElem?_getD, List.getElem?_eq_getElem hi]; rfl
          · rw [Nat.mul_one, cat_i64]
            exact put_take (by omega)
        · simp only [resSt, someRows, St.row, lk_cons, if_neg e, lk] at hr; cases hr
      rowsG := fun r row hr => by
        by_cases e : 0 = r
        · subst e
          simp only [resSt, someRows, St.row, lk_cons, if_pos, Option.bind_some, id, Option.some.injEq] at hr
          subst hr
          exact ⟨by decide, trivial⟩
        · simp only [resSt, someRows, St.row, lk_cons, if_neg e, lk] at hr; cases hr
      inj := fun r r' row row' b c c' hr hr' _ _ => by
        by_cases e : 0 = r
        · by_cases e' : 0 = r'
          · omega
          · simp only [resSt, someRows, St.row, lk_cons, if_neg e', lk] at hr'; cases hr'
        · simp only [resSt, someRows, St.row, lk_cons, if_neg e, lk] at hr; cases hr
      high := fun r row b' c' hr hs => by
        by_cases e : 0 = r
        · subst e
          exact hst.high _ _ _ _ hr0 hs
        · simp only [resSt, someRows, St.row, lk_cons, if_neg e, lk] at hr; cases hr
      size := by
        show C.B ≤ ((w.heap.modify b _) ++ os).size
        simp; omega
      below := by rw [hw]; exact hbm
      defers := trivial
      sz := rfl
      x0 := hst.x0
      agree := fun r _ => by rw [hσ]
      baseG := fun r hr => by rw [hbs] at hr; show r < 72; omega
      bs := by rw [hbs]; rfl
      rok := fun l hl => by rw [hro] at hl; cases hl
      glob := hst.glob }
end Go.Eng

namespace Go.Eng
open Go.RowKit
variable {P : Program} {f : FuncId} {avs avs' : List AV} {h0 : List (Nat × Row)} {res : AV}
/-- What is known at the beginning is known otherwise, too. -/
def Tells (avs : List AV) (h0 : List (Nat × Row)) (avs' : List AV) (h0' : List (Nat × Row)) : Prop :=
  ∀ (C : Ctx) (G : Nat → Prop) (σ : Place) (w : World) (a : Act), StRel C G (inSt avs h0) σ w a → StRel C G (inSt avs' h0') σ w a
/-- The result hangs on no memory. -/
def FreeRes (res : AV) : Prop := (∀ (σ σ' : Place) (w w' : World) (X X' : Nat → Prop) (v : Value), RelV σ w X res v → RelV σ' w' X' res v) ∧ ∀ G : Nat → Prop, res.within G
end Go.Eng

namespace Go.Eng
open Go.RowKit
theorem RowLe.ds_take {t : TypeId} {s m : Nat} {ex : Bool} {α : Type} {enc : α → D} {xs : List α} : RowLe (.ds t s ex enc xs) (.ds t s false enc (xs.take m)) := by
  intro σ w X r h
  rcases h with ⟨h1, rfl⟩ | ⟨b, c, cur, h1, _, h2, h3, h4, h5, f, hf, h6⟩
  · exact .inl ⟨h1, by simp⟩
  · have hle : (xs.take m).length ≤ xs.length := by rw [List.length_take]; omega
    refine .inr ⟨b, c, cur, h1, (fun h => by cases h), h2, h3, by omega, h5, f, fun i hi => ?_, ?_⟩
    · have hi' : i < xs.length := by omega
      rw [List.getElem_take]
      exact hf i hi'
    · obtain ⟨k, hk⟩ : ∃ k, xs.length = (xs.take m).length + k := ⟨xs.length - (xs.take m).length, by omega⟩
      have hl := cat_len (xs.take m).length (fun i hi => (hf i (by omega)).2)
      have h7 := congrArg (List.take ((xs.take m).length * s)) h6
      rw [List.take_take, Nat.min_eq_left (Nat.mul_le_mul_right s hle)] at h7
      rw [h7]
      conv => lhs; rw [hk, cat_add]
      rw [List.take_append_of_le_length (by rw [hl]; exact Nat.le_refl _), List.take_of_length_le (by rw [hl]; exact Nat.le_refl _)]
theorem Frz.row_le {r : Nat} {row row' : Row} {a a' : AV} (h : RowLe row row') (hf : Frz r row' a a') : Frz r row a a' :=
  ⟨hf.1, hf.2.1, hf.2.2.1, fun σ w X X' hx hn hr cs hc => hf.2.2.2 σ w X X' hx hn (h σ w X r hr) cs hc⟩
end Go.Eng

namespace Go.Proofs.YtmojbghcngdkpaaGreatDoor
open Go.Eng Go.Plain
set_option maxHeartbeats 4000000
set_option maxRecDepth 20000
set_option linter.unusedVariables false
attribute [local irreducible] WC RegS RegD SeqQ BlkQ ScoQ RegK CutK Sat SatN FnIs LoopQ StepIs OpIs
abbrev rpR (x : List (List POp) × Nat × Int) : AV := .tup (.acons (.d (encPL x.1)) (.acons (.int .i64 (x.2.1 : Nat)) (.acons (.int .i64 x.2.2) .anil)))
@[reducible] noncomputable def qSt (s : List UInt8) (W : List (List UInt8)) : Option (List (List POp) × List POp) × Nat → St
  | (none, i) => ⟨[(7, .int .i64 i), (6, .d (.sc nil_)), (5, .d (.arr 1 strD W))], [], 72, Tryz.f50.ntmps, 64⟩
  | (some (l, p), i) => ⟨[(7, .int .i64 i), (6, .own 65 0 (l.length + 1) 1 none), (5, .d (.arr 1 strD W))], [(65, some (rowL p l (l.length + 1) 66)), (66, some (rowP p))], 72, Tryz.f50.ntmps, 64⟩
def QInv (W : List (List UInt8)) : Option (List (List POp) × List POp) × Nat → Prop
  | (q, i) => i ≤ W.length ∧ parseR (W.drop i) i (toL q) = parseR W 0 [] ∧ chkP (toL q) = 0
end Go.Proofs.YtmojbghcngdkpaaGreatDoor

namespace Go.Plain
open Go.Lib
theorem asc_unique : ∀ (a b : List Int), a.Pairwise (· < ·) → b.Pairwise (· < ·) → (∀ x, x ∈ a ↔ x ∈ b) → a = b
  | [], [], _, _, _ => rfl
  | [], y :: b, _, _, h => absurd ((h y).2 (List.mem_cons_self ..)) (by simp)
  | x :: a, [], _, _, h => absurd ((h x).1 (List.mem_cons_self ..)) (by simp)
  | x :: a, y :: b, ha, hb, h => by
    have ha' := List.pairwise_cons.1 ha
    have hb' := List.pairwise_cons.1 hb
    have h1 := (h x).1 (List.mem_cons_self ..)
    have h2 := (h y).2 (List.mem_cons_self ..)
    have hxy : x = y := by
      rcases List.mem_cons.1 h1 with e | e
      · exact e
      · rcases List.mem_cons.1 h2 with e2 | e2
        · exact e2.symm
        · have h3 := ha'.1 y e2
          have h4 := hb'.1 x e
          omega
    subst hxy
    congr 1
    refine asc_unique a b ha'.2 hb'.2 fun z => ⟨fun hz => ?_, fun hz => ?_⟩
    · have h5 := ha'.1 z hz
      rcases List.mem_cons.1 ((h z).1 (List.mem_cons_of_mem _ hz)) with e | e
      · omega
      · exact e
    · have h5 := hb'.1 z hz
      rcases List.mem_cons.1 ((h z).2 (List.mem_cons_of_mem _ hz)) with e | e
      · omega
      · exact e
theorem compact_asc {d : Array Int} (hs : ∀ i j, i < j → j < d.size → d[i]! ≤ d[j]!) : ∀ m, m ≤ d.size →
    (compactUpTo d m).Pairwise (· < ·) ∧ (∀ x, x ∈ compactUpTo d m ↔ ∃ j, j < m ∧ d[j]! = x) := by
  intro m
  induction m with
  | zero => intro _; exact ⟨List.Pairwise.nil, fun x => by simp [compactUpTo]⟩
  | succ m ih =>
    intro hm
    obtain ⟨h1, h2⟩ := ih (by omega)
    rw [compactUpTo_succ]
    by_cases hk : keeps d m = true
    · rw [if_pos hk]
      have hlt : ∀ x, x ∈ compactUpTo d m → x < d[m]! := by
        intro x hx
        obtain ⟨j, hj, rfl⟩ := (h2 x).1 hx
        rcases of_decide_eq_true hk with h0 | h0
        · omega
        · have h3 := hs (m - 1) m (by omega) (by omega)
          rcases Nat.lt_or_ge j (m - 1) with h4 | h4
          · have := hs j (m - 1) h4 (by omega); omega
          · have : j = m - 1 := by omega
            subst this; omega
      refine ⟨List.pairwise_append.2 ⟨h1, List.pairwise_singleton _ _, fun x hx y hy => ?_⟩, fun x => ?_⟩
      · rw [List.mem_singleton.1 hy]; exact hlt x hx
      · rw [List.mem_append, h2, List.mem_singleton]
        constructor
        · rintro (⟨j, hj, e⟩ | e)
          · exact ⟨j, by omega, e⟩
          · exact ⟨m, by omega, e.symm⟩
        · rintro ⟨j, hj, e⟩
          rcases Nat.lt_or_ge j m with h4 | h4
          · exact .inl ⟨j, h4, e⟩
          · have : j = m := by omega
            subst this; exact .inr e.symm
    · rw [if_neg hk, List.append_nil]
      have hk' : ¬ (m = 0 ∨ d[m]! ≠ d[m - 1]!) := fun h => hk (decide_eq_true h)
      have hm0 : m ≠ 0 := fun e => hk' (.inl e)
      have he : d[m]! = d[m - 1]! := Classical.byContradiction fun e => hk' (.inr e)
      refine ⟨h1, fun x => ?_⟩
      rw [h2]
      constructor
      · rintro ⟨j, hj, e⟩; exact ⟨j, by omega, e⟩
      · rintro ⟨j, hj, e⟩
        rcases Nat.lt_or_ge j m with h4 | h4
        · exact ⟨j, h4, e⟩
        · have : j = m := by omega
          subst this; exact ⟨j - 1, by omega, by rw [← he]; exact e⟩
abbrev sortI (l : List Int) : List Int := l.mergeSort fun x y => decide (x ≤ y)
theorem sort_len (l : List Int) : (sortI l).length = l.length := List.length_mergeSort _
theorem sort_mem (l : List Int) (x : Int) : x ∈ sortI l ↔ x ∈ l := List.mem_mergeSort
theorem sort_asc (l : List Int) : (sortI l).Pairwise (· ≤ ·) := by
  have := List.pairwise_mergeSort (le := fun x y : Int => decide (x ≤ y)) (fun a b c h1 h2 => by have := of_decide_eq_true h1; have := of_decide_eq_true h2; exact decide_eq_true (by omega)) (fun a b => by
    by_cases h : a ≤ b
    · simp [h]
    · have : b ≤ a := by omega
      simp [this]) l
  exact this.imp fun h => of_decide_eq_true h
theorem csort (l : List Int) : (compact (sortI l)).Pairwise (· < ·) ∧ ∀ x, x ∈ compact (sortI l) ↔ x ∈ l := by
  have h := compact_asc (d := (sortI l).toArray) (fun i j hij hj => by
    simp only [List.size_toArray] at hj
    have := List.pairwise_iff_getElem.1 (sort_asc l) i j (by omega) hj hij
    simp only [List.getElem!_toArray]
    rw [getElem!_pos _ i (by omega), getElem!_pos _ j hj]
    exact this) (sortI l).length (Nat.le_refl _)
  refine ⟨h.1, fun x => ?_⟩
  rw [show compact (sortI l) = compactUpTo (sortI l).toArray (sortI l).length from rfl, h.2, ← sort_mem l x]
  constructor
  · rintro ⟨j, hj, e⟩
    simp only [List.getElem!_toArray] at e
    rw [getElem!_pos _ j hj] at e
    rw [← e]; exact List.getElem_mem _
  · intro hx
    obtain ⟨j, hj, e⟩ := List.getElem_of_mem hx
    refine ⟨j, hj, ?_⟩
    simp only [List.getElem!_toArray]
    rw [getElem!_pos _ j hj]
    exact e
theorem compact_len (l : List Int) : (compact l).length ≤ l.length := by
  unfold compact compactUpTo
  rw [List.length_map]
  refine Nat.le_trans (List.length_filter_le _ _) ?_
  simp
end Go.Plain

namespace Go.Proofs.YtmojbghcngdkpaaGreatDoor
open Go.Eng Go.Plain Go.Lib
def insL (n : Int) : List Int → List Int
  | [] => [n]
  | x :: l => if n ≤ x then n :: (x :: l).filter (fun y => decide (y ≠ n)) else x :: insL n l
theorem wfold_true (n : Int) : ∀ (l o : List Int), l.foldl (wStep n) (o, true) = (o ++ l.filter (fun y => decide (y ≠ n)), true)
  | [], o => by simp
  | x :: l, o => by
    rw [List.foldl_cons]
    by_cases h : x = n
    · rw [show wStep n (o, true) x = (o, true) by simp [wStep, h], wfold_true n l o]
      simp [h]
    · rw [show wStep n (o, true) x = (o ++ [x], true) by simp [wStep, h], wfold_true n l (o ++ [x])]
      simp [h]
def wOut (n : Int) (s : List Int × Bool) : List Int := if s.2 = true then s.1 else s.1 ++ [n]
theorem wfold_false (n : Int) : ∀ (l o : List Int), wOut n (l.foldl (wStep n) (o, false)) = o ++ insL n l
  | [], o => by simp [insL, wOut]
  | x :: l, o => by
    rw [List.foldl_cons]
    by_cases h : n ≤ x
    · by_cases h2 : x = n
      · rw [show wStep n (o, false) x = (o ++ [n], true) by simp [wStep, h, h2], wfold_true n l (o ++ [n])]
        simp [wOut, insL, h2]
      · rw [show wStep n (o, false) x = (o ++ [n] ++ [x], true) by simp [wStep, h, h2], wfold_true n l (o ++ [n] ++ [x])]
        simp [wOut, insL, h, h2]
    · have h2 : x ≠ n := by omega
      rw [show wStep n (o, false) x = (o ++ [x], false) by simp [wStep, h, h2], wfold_false n l (o ++ [x])]
      simp [insL, h]
theorem withL_ins (l : List Int) (n : Int) : withL l n = insL n l := by
  have h := wfold_false n l []
  rw [List.nil_append] at h
  rw [← h]
  cases hb : (l.foldl (wStep n) ([], false)).2 <;> simp [withL, wPre, wOut, hb]
theorem insL_mem (n x : Int) : ∀ (l : List Int), x ∈ insL n l ↔ x = n ∨ x ∈ l
  | [] => by simp [insL]
  | y :: l => by
    rw [insL]
    by_cases h : n ≤ y
    · rw [if_pos h, List.mem_cons, List.mem_filter]
      by_cases e : x = n
      · simp [e]
      · simp [e]
    · rw [if_neg h, List.mem_cons, insL_mem n x l, List.mem_cons]
      constructor
      · rintro (h | h | h)
        · exact .inr (.inl h)
        · exact .inl h
        · exact .inr (.inr h)
      · rintro (h | h | h)
        · exact .inr (.inl h)
        · exact .inl h
        · exact .inr (.inr h)
theorem insL_asc (n : Int) : ∀ (l : List Int), l.Pairwise (· < ·) → (insL n l).Pairwise (· < ·)
  | [], _ => by simp [insL]
  | y :: l, hl => by
    have hl' := List.pairwise_cons.1 hl
    rw [insL]
    by_cases h : n ≤ y
    · rw [if_pos h]
      refine List.pairwise_cons.2 ⟨fun x hx => ?_, hl.filter _⟩
      obtain ⟨h1, h2⟩ := List.mem_filter.1 hx
      have h2 := of_decide_eq_true h2
      rcases List.mem_cons.1 h1 with e | e
      · omega
      · have := hl'.1 x e; omega
    · rw [if_neg h]
      refine List.pairwise_cons.2 ⟨fun x hx => ?_, insL_asc n l hl'.2⟩
      rcases (insL_mem n x l).1 hx with e | e
      · omega
      · exact hl'.1 x e
def idxL (b : Int) (l : List POp) : List Int := (l.filter (touB b)).map POp.index
theorem tou_fold (b : Int) : ∀ (l : List POp) (a : List Int), a.Pairwise (· < ·) → (l.foldl (touS b) a).Pairwise (· < ·) ∧ ∀ x, x ∈ l.foldl (touS b) a ↔ x ∈ a ∨ x ∈ idxL b l
  | [], a, ha => ⟨ha, fun x => by simp [idxL]⟩
  | o :: l, a, ha => by
    rw [List.foldl_cons]
    by_cases h : touB b o = true
    · rw [show touS b a o = insL o.index a by rw [touS, if_pos h, withL_ins]]
      obtain ⟨h1, h2⟩ := tou_fold b l _ (insL_asc o.index a ha)
      refine ⟨h1, fun x => ?_⟩
      rw [h2, insL_mem, show idxL b (o :: l) = o.index :: idxL b l by simp [idxL, h], List.mem_cons]
      constructor
      · rintro ((h | h) | h)
        · exact .inr (.inl h)
        · exact .inl h
        · exact .inr (.inr h)
      · rintro (h | h | h)
        · exact .inl (.inr h)
        · exact .inl (.inl h)
        · exact .inr h
    · rw [show touS b a o = a by rw [touS, if_neg h]]
      obtain ⟨h1, h2⟩ := tou_fold b l a ha
      refine ⟨h1, fun x => ?_⟩
      rw [h2, show idxL b (o :: l) = idxL b l by simp [idxL, h]]
theorem touL_sort (b : Int) (l : List POp) : compact (sortI (idxL b l)) = touL b l := by
  obtain ⟨h1, h2⟩ := tou_fold b l [] List.Pairwise.nil
  obtain ⟨h3, h4⟩ := csort (idxL b l)
  refine asc_unique _ _ h3 h1 fun x => ?_
  rw [h4, show (x ∈ touL b l) = (x ∈ l.foldl (touS b) []) from rfl, h2]
  simp
theorem idxL_snoc (b : Int) (l : List POp) (o : POp) : idxL b (l ++ [o]) = if touB b o = true then idxL b l ++ [o.index] else idxL b l := by
  by_cases h : touB b o = true <;> simp [idxL, h]
theorem idxL_len (b : Int) (l : List POp) : (idxL b l).length ≤ l.length := by
  rw [idxL, List.length_map]
  exact List.length_filter_le _ _
end Go.Proofs.YtmojbghcngdkpaaGreatDoor

namespace Go.Proofs.YtmojbghcngdkpaaGreatDoor
open Go.Eng Go.Plain Go.RowKit
set_option maxHeartbeats 4000000
set_option maxRecDepth 20000
attribute [local irreducible] WC RegS RegD SeqQ BlkQ ScoQ RegK CutK Sat SatN FnIs LoopQ StepIs OpIs
theorem tup_nil (σ : Eng.Place) (w : World) (X : Nat → Prop) : RelV σ w X (.tup .anil) (.tuple #[]) := by
  unfold RelV
  simp only [AV.isAgg]
  exact ⟨[], rfl, rfl⟩
theorem sort_is (l : List Int) (h : 0 < l.length) (hl : l.length ≤ 100000) : FnIs Tryz.prog 86 [.own 0 0 l.length 1 none] [(0, rowI l)] (.tup .anil) [(0, rowI (sortI l))] :=
  .of_calls_ints (rv := fun _ _ => .tuple #[]) h (sort_len l) ⟨_, Tryz.func86, by kernel_rfl, by kernel_rfl⟩ (fun σ w X b c _ _ => tup_nil σ w X) trivial fun w b c hb hH hc => by
    refine (Tryz.slices_Sort_int b 0 c l w hH hb (by omega)).mono ?_
    rintro e w' ⟨h1, h2⟩
    exact ⟨h1, h2⟩
theorem compact_own (l : List Int) (h : 0 < l.length) (hl : l.length ≤ 100000) : FnIs Tryz.prog 89 [.own 0 0 l.length 1 none] [(0, rowI l)] (.own 0 0 (Lib.compact l).length 1 none) [(0, rowI (Lib.compact l ++ List.replicate (l.length - (Lib.compact l).length) 0))] :=
  .of_calls_ints (rv := fun b c => .slice (some ⟨b, 0, none⟩) (Lib.compact l).length c) h (by have := compact_len l; simp; omega) ⟨_, Tryz.func89, by kernel_rfl, by kernel_rfl⟩ (fun σ w X b c hs hc => by
    have := compact_len l
    unfold RelV
    simp only [AV.isAgg, Bool.false_eq_true, if_false]
    exact .inr ⟨b, c, ⟨b, 0, none⟩, hs, by simp, by omega, by simp, by simp; omega, fun _ => by simp⟩) (by show (0 : Nat) < 72; decide) fun w b c hb hH hc => by
    refine (Tryz.slices_Compact_int b 0 c l w hH (by omega) hc).mono ?_
    rintro e w' ⟨h1, q, h2⟩
    exact ⟨h1, q, #[], by rw [h2]; simp [Sort.grow_empty]⟩
theorem compact_is (l : List Int) (h : 0 < l.length) (hl : l.length ≤ 100000) : FnIs Tryz.prog 89 [.own 0 0 l.length 1 none] [(0, rowI l)] (.d (.arr 1 i6 (Lib.compact l))) [] :=
  (compact_own l h hl).freeze_out 0 _ rfl (Frz.row_le (row' := rowI (Lib.compact l)) (fun σ w X r hr => by
    have := RowLe.ds_take (m := (Lib.compact l).length) σ w X r hr
    rwa [List.take_left'] at this
    rfl) (Frz.own rfl)) trivial
theorem len64_0 : FnIs Tryz.prog 154 [.int .u64 0] [] (.int .i64 0) [] :=
  .of_calls1 rfl ⟨_, Tryz.func154, by kernel_rfl, by kernel_rfl⟩ fun σ w X vs ha hg => by
    rw [ha.one]
    refine (Tryz.bits_Len64 0 w (by decide) (by decide)).mono ?_
    rintro e w' ⟨rfl, rfl⟩
    exact ⟨rfl, Below.refl _ _⟩
theorem len_0 : FnIs Tryz.prog 125 [.int .u64 0] [] (.int .i64 0) [] := by
  refine fnIs_of tab_ok Tryz.func125 rfl rfl rfl ?_
  refine sR ?_
  refine rC rfl ik0 ?_
  refine nS ?_
  refine wc_seq ?_
  refine wc_false rfl rfl ?_
  refine wc_skip ?_
  refine seq_n ?_
  refine sR ?_
  refine rC rfl ik0 ?_
  refine rQ rfl (call_r len64_0 rfl rfl (arg_e arg_nil) (.inl rfl) (fun _ => rfl)) ?_
  refine rC rfl ik0 ?_
  refine nS ?_
  refine wc_ret ?_
  exact ⟨trivial, [], .of rfl rfl rfl rfl rfl ⟨⟨_, rfl, AVLe.of_eq rfl⟩, rfl, trivial⟩ trivial⟩
theorem ins_nil : FnIs Tryz.prog 144 [.d (.sc nil_), .int .i64 0, .int .i64 0] [] (.tup .anil) [] := by
  refine fnIs_of tab_ok Tryz.func144 rfl rfl rfl ?_
  refine sR ?_
  refine rC rfl ik0 ?_
  refine rQ rfl (add_int tab_ok rfl rfl (wrap_i64 (by omega) (by omega))) ?_
  refine rC rfl ik0 ?_
  refine nS ?_
  refine wc_block ?_
  refine wc_once ?_
  refine wc_seq ?_
  refine sR ?_
  iterate 3 refine rC rfl ik0 ?_
  refine nS ?_
  refine wc_false rfl rfl ?_
  refine wc_exit ?_
  refine seq_x ?_
  refine loop_x ?_
  refine blk_x ?_
  exact ⟨trivial, [], .of rfl rfl rfl rfl rfl ⟨⟨_, rfl, AVLe.of_eq rfl⟩, rfl, trivial⟩ trivial⟩
theorem pdq_nil : FnIs Tryz.prog 124 [.d (.sc nil_), .int .i64 0, .int .i64 0, .int .i64 0] [] (.tup .anil) [] := by
  refine fnIs_of tab_ok Tryz.func124 rfl rfl rfl ?_
  refine sR ?_
  refine rC rfl ik0 ?_
  refine nR ?_
  refine rC rfl ik0 ?_
  refine nS ?_
  refine wc_block ?_
  refine wc_once ?_
  refine wc_block ?_
  refine sR ?_
  iterate 2 refine rC rfl ik0 ?_
  refine rQ rfl (sub_int tab_ok rfl rfl (wrap_i64 (by omega) (by omega))) ?_
  refine rC rfl ik0 ?_
  refine nS ?_
  refine wc_seq ?_
  refine sR ?_
  iterate 2 refine rC rfl ik0 ?_
  refine nS ?_
  refine wc_true rfl rfl ?_
  refine sR ?_
  iterate 3 refine rC rfl ik0 ?_
  refine rQ rfl (call_r ins_nil rfl rfl (arg_e (arg_e (arg_e arg_nil))) (.inl rfl) (fun _ => rfl)) ?_
  refine nS ?_
  refine wc_ret ?_
  refine seq_r ?_
  refine blk_r ?_
  refine loop_r ?_
  refine blk_r ?_
  exact ⟨trivial, [], .of rfl rfl rfl rfl rfl ⟨⟨_, rfl, AVLe.of_eq rfl⟩, rfl, trivial⟩ trivial⟩
theorem sort_nil : FnIs Tryz.prog 86 [.d (.sc nil_)] [] (.tup .anil) [] := by
  refine fnIs_of tab_ok Tryz.func86 rfl rfl rfl ?_
  refine sR ?_
  refine rC rfl ik0 ?_
  refine rQ rfl (len_nil tab_ok rfl rfl) ?_
  refine rC rfl ik0 ?_
  refine nS ?_
  refine wc_region ?_
  iterate 3 refine rC rfl ik0 ?_
  refine rQ rfl (conv_int tab_ok rfl rfl rfl rfl) ?_
  refine rQ rfl (call_r len_0 rfl rfl (arg_e arg_nil) (.inl rfl) (fun _ => rfl)) ?_
  refine rQ rfl (call_r pdq_nil rfl rfl (arg_e (arg_e (arg_e (arg_e arg_nil)))) (.inl rfl) (fun _ => rfl)) ?_
  refine reg_nil ?_
  exact ⟨trivial, [], .of rfl rfl rfl rfl rfl ⟨⟨_, rfl, AVLe.of_eq rfl⟩, rfl, trivial⟩ trivial⟩
theorem compact_nil : FnIs Tryz.prog 89 [.d (.sc nil_)] [] (.d (.sc nil_)) [] :=
  .of_calls1 rfl ⟨_, Tryz.func89, by kernel_rfl, by kernel_rfl⟩ fun σ w X vs ha hg => by
    rw [ha.one]
    refine (Tryz.slices_Compact_int_empty none 0 w).mono ?_
    rintro e w' ⟨rfl, rfl⟩
    exact ⟨rfl, Below.refl _ _⟩
theorem clonei_ne (l : List Int) (hp : 0 < l.length) (hlen : l.length ≤ 1048576) : FnIs Tryz.prog 88 [.d (.arr 1 i6 l)] [] (.own 64 0 l.length 1 none) [(64, rowI l)] := by
  refine fnIs_of tab_ok Tryz.func88 rfl rfl rfl ?_
  refine sR ?_
  refine rC rfl ik0 ?_
  refine nS ?_
  refine wc_seq ?_
  refine sR ?_
  refine rC rfl ik0 ?_
  refine rQ rfl (eql_nil tab_ok rfl rfl rfl hp) ?_
  refine nS ?_
  refine wc_false rfl rfl ?_
  refine wc_skip ?_
  refine seq_n ?_
  refine sR ?_
  refine rQ rfl (build_empty tab_ok rfl rfl) ?_
  refine rC rfl ik0 ?_
  refine reg_new (append_empty_arr tab_ok rfl rfl rfl rfl rfl (.inl rfl) rfl hp hlen rfl) rfl ?_
  refine rC rfl ik0 ?_
  refine nS ?_
  refine wc_ret ?_
  exact ⟨trivial, [(64, some 104)], .of rfl rfl rfl rfl rfl ⟨⟨_, rfl, AVLe.of_eq rfl⟩, rfl, trivial⟩ ⟨⟨rfl, rfl, _, rfl, .refl _⟩, trivial⟩⟩
theorem clonei_is (l : List Int) (hp : 0 < l.length) (hlen : l.length ≤ 1048576) : FnIs Tryz.prog 88 [.d (.arr 1 i6 l)] [] (.d (.arr 1 i6 l)) [] := (clonei_ne l hp hlen).freeze_out 64 _ rfl (Frz.own rfl) trivial
theorem clonei_nil : FnIs Tryz.prog 88 [.d (.sc nil_)] [] (.d (.sc nil_)) [] := by
  refine fnIs_of tab_ok Tryz.func88 rfl rfl rfl ?_
  refine sR ?_
  refine rC rfl ik0 ?_
  refine nS ?_
  refine wc_seq ?_
  refine sR ?_
  refine rC rfl ik0 ?_
  refine rQ rfl (eql_nn tab_ok rfl rfl rfl) ?_
  refine nS ?_
  refine wc_true rfl rfl ?_
  refine sR ?_
  refine rC rfl ik0 ?_
  refine nS ?_
  refine wc_ret ?_
  refine seq_r ?_
  exact ⟨trivial, [], .of rfl rfl rfl rfl rfl ⟨⟨_, rfl, AVLe.of_eq rfl⟩, rfl, trivial⟩ trivial⟩
theorem clipi_is (l : List Int) : FnIs Tryz.prog 87 [.d (.arr 1 i6 l)] [] (.d (.arx 1 i6 l)) [] := by
  refine fnIs_of tab_ok Tryz.func87 rfl rfl rfl ?_
  refine sR ?_
  refine rC rfl ik0 ?_
  refine nR ?_
  iterate 2 refine rC rfl ik0 ?_
  refine rQ rfl (len_arr tab_ok rfl rfl) ?_
  refine rC rfl ik0 ?_
  refine rQ rfl (len_arr tab_ok rfl rfl) ?_
  refine rQ rfl (slice_clip_arr tab_ok rfl rfl rfl rfl rfl) ?_
  refine rC rfl ik0 ?_
  refine nS ?_
  refine wc_ret ?_
  exact ⟨trivial, [], .of rfl rfl rfl rfl rfl ⟨⟨_, rfl, AVLe.of_eq rfl⟩, rfl, trivial⟩ trivial⟩
end Go.Proofs.YtmojbghcngdkpaaGreatDoor

namespace Go.Proofs.YtmojbghcngdkpaaGreatDoor
open Go.Eng Go.Plain
set_option maxHeartbeats 4000000
set_option maxRecDepth 20000
attribute [local irreducible] WC RegS RegD SeqQ BlkQ ScoQ RegK CutK Sat SatN FnIs LoopQ StepIs OpIs
@[reducible] def accA : List Int → AV
  | [] => .d (.sc nil_)
  | x :: xs => .own 65 0 (xs.length + 1) 1 none
@[reducible] def accH : List Int → Upds
  | [] => []
  | x :: xs => [(65, some (rowI (x :: xs)))]
@[reducible] noncomputable def tS1 (l : List (List POp)) (b : Int) (a : List Int × Nat) : St := ⟨[(12, .int .i64 a.2), (11, .int .i64 l.length), (10, .d (encPL l)), (5, accA a.1), (1, .int .i64 b)], accH a.1, 72, Tryz.f43.ntmps, 64⟩
@[reducible] noncomputable def tS2 (l : List (List POp)) (b : Int) (i : Nat) (p : List POp) (a : List Int × Nat) : St := ⟨[(18, .int .i64 a.2), (17, .int .i64 p.length), (16, .d (encP p)), (12, .int .i64 i), (11, .int .i64 l.length), (10, .d (encPL l)), (5, accA a.1), (1, .int .i64 b)], accH a.1, 72, Tryz.f43.ntmps, 64⟩
theorem clipi_nil : FnIs Tryz.prog 87 [.d (.sc nil_)] [] (.d (.arx 1 i6 [])) [] := FnIs.args_le (avs' := [.d (.arr 1 i6 [])]) ⟨⟨nil_arr _ _, fun _ _ => trivial⟩, trivial⟩ (clipi_is [])
theorem touched_is (l : List (List POp)) (b : Int) (hL : l.length ≤ 100000) (hF : l.flatten.length ≤ 100000) : FnIs Tryz.prog 43 [.d (encPL l), .int .i64 b] [] (.d (.arx 1 i6 (touL b l.flatten))) [] := by
  refine fnIs_of tab_ok Tryz.func43 rfl rfl rfl ?_
  refine sR ?_
  refine rC rfl ik0 ?_
  refine nR ?_
  refine rC rfl ik0 ?_
  refine nS ?_
  refine wc_seq ?_
  refine sR ?_
  refine rC rfl ik0 ?_
  refine rQ rfl (len_arr tab_ok rfl rfl) ?_
  refine rC rfl ik0 ?_
  refine nS ?_
  refine wc_block ?_
  refine wc_inv (tS1 l b) (fun a => a.2 ≤ l.length ∧ a.1 = idxL b (l.take a.2).flatten) (fun a => l.length - a.2) ([], 0) [] ⟨Nat.zero_le _, rfl⟩
    (.of rfl rfl rfl rfl rfl ⟨⟨_, rfl, .refl _⟩, rfl, ⟨_, rfl, .refl _⟩, rfl, ⟨_, rfl, .refl _⟩, rfl, ⟨_, rfl, .refl _⟩, rfl, ⟨_, rfl, .refl _⟩, rfl, trivial⟩ trivial) ?_
  rintro ⟨acc, i⟩ ⟨hi, hacc⟩
  simp only at hi hacc
  cases acc with
  | nil =>
    refine wc_of ?_
    refine sR ?_
    refine rC rfl ik0 ?_
    refine nS ?_
    refine wc_seq ?_
    refine wc_cond rfl (fun h3 => ?_) (fun h3 => ?_)
    · have hlt : i < l.length := by have := of_decide_eq_true h3; omega
      clear h3
      obtain ⟨p, hp⟩ : ∃ p, l[i]? = some p := ⟨_, List.getElem?_eq_getElem hlt⟩
      have hp' : l[((i : Int)).toNat]? = some p := by rw [Int.toNat_natCast]; exact hp
      have hfm := flat_mem_le hp
      rw [← preO_zero l i p] at hacc
      refine wc_skip ?_
      refine seq_n ?_
      refine wc_seq ?_
      refine wc_block ?_
      refine sR ?_
      refine rQ rfl (index_arr tab_ok rfl rfl rfl rfl rfl (by omega) (by assumption)) ?_
      refine rQ rfl (load_i tab_ok rfl rfl) ?_
      refine rC rfl ik0 ?_
      refine nR ?_
      refine rC rfl ik0 ?_
      refine rQ rfl (len_arr tab_ok rfl rfl) ?_
      refine rC rfl ik0 ?_
      refine nS ?_
      refine wc_block ?_
      refine wc_inv (tS2 l b i p) (fun a => a.2 ≤ p.length ∧ a.1 = idxL b (preO l i p a.2)) (fun a => p.length - a.2) (([] : List Int), 0) [] ⟨Nat.zero_le _, hacc⟩
        (.of rfl rfl rfl rfl rfl ⟨⟨_, rfl, .refl _⟩, rfl, ⟨_, rfl, .refl _⟩, rfl, ⟨_, rfl, .refl _⟩, rfl, ⟨_, rfl, .refl _⟩, rfl, ⟨_, rfl, .refl _⟩, rfl, ⟨_, rfl, .refl _⟩, rfl, ⟨_, rfl, .refl _⟩, rfl, ⟨_, rfl, .refl _⟩, rfl, trivial⟩ trivial) ?_
      rintro ⟨acc, j⟩ ⟨hj, hacc⟩
      simp only at hj hacc
      cases acc with
      | nil =>
        refine wc_of ?_
        refine sR ?_
        refine rC rfl ik0 ?_
        refine nS ?_
        refine wc_seq ?_
        refine wc_cond rfl (fun h4 => ?_) (fun h4 => ?_)
        · have hjl : j < p.length := by have := of_decide_eq_true h4; omega
          clear h4
          obtain ⟨o, ho⟩ : ∃ o, p[j]? = some o := ⟨_, List.getElem?_eq_getElem hjl⟩
          have ho' : p[((j : Int)).toNat]? = some o := by rw [Int.toNat_natCast]; exact ho
          have hgo := preO_go (l := l) (i := i) ho
          have hle := preO_le (j := j) hp
          have hstep : idxL b (preO l i p (j + 1)) = if touB b o = true then idxL b (preO l i p j) ++ [o.index] else idxL b (preO l i p j) := by rw [hgo, idxL_snoc]
          have hil := idxL_len b (preO l i p j)
          rw [← hacc] at hstep hil
          have hbad := bad_is o b
          by_cases k3 : o.kind = 3
          · have hk : (!decide (o.kind = 3)) = false := by rw [decide_eq_true k3]; rfl
            rw [if_neg (by rw [touB, hk, Bool.false_and]; decide)] at hstep
            refine wc_skip ?_
            refine seq_n ?_
            refine wc_seq ?_
            refine wc_block ?_
            refine sR ?_
            refine rQ rfl (index_arr tab_ok rfl rfl rfl rfl rfl (by omega) (by assumption)) ?_
            refine rQ rfl (load_i tab_ok rfl rfl) ?_
            refine reg_new (step_C tab_ok (fun K hk => hk)) rfl ?_
            refine reg_store (store_row tab_ok rfl rfl rfl ⟨_, ⟨rfl, rfl, rfl⟩, rfl⟩ rfl) ?_
            refine nR ?_
            refine rC rfl ik0 ?_
            refine rQ rfl (load_box tab_ok rfl rfl ⟨_, rfl, rfl⟩ rfl) ?_
            iterate 2 refine rC rfl ik0 ?_
            iterate 4 refine reg_skip rfl rfl (by assumption) rfl rfl ?_
            refine rQ rfl (pick_F tab_ok rfl (by assumption) rfl) ?_
            refine nS ?_
            refine wc_false rfl rfl ?_
            refine wc_skip ?_
            refine blk_n ?_
            refine seq_n ?_
            refine wc_region ?_
            refine rQ rfl (add_int tab_ok rfl rfl (wrap_i64 (by omega) (by omega))) ?_
            refine rC rfl ik0 ?_
            refine reg_nil ?_
            exact loop_n (([] : List Int), j + 1) [] ⟨hjl, hstep.symm⟩ (by show p.length - (j + 1) < p.length - j; omega) (.of rfl rfl rfl rfl rfl ⟨⟨_, rfl, .refl _⟩, rfl, ⟨_, rfl, .refl _⟩, rfl, ⟨_, rfl, .refl _⟩, rfl, ⟨_, rfl, .refl _⟩, rfl, ⟨_, rfl, .refl _⟩, rfl, ⟨_, rfl, .refl _⟩, rfl, ⟨_, rfl, .refl _⟩, rfl, ⟨_, rfl, .refl _⟩, rfl, trivial⟩ trivial)
          have hk : (!decide (o.kind = 3)) = true := by rw [decide_eq_false k3]; rfl
          cases hb : badO o b with
          | true =>
            rw [hb] at hbad
            rw [if_neg (by rw [touB, hk, hb]; decide)] at hstep
            refine wc_skip ?_
            refine seq_n ?_
            refine wc_seq ?_
            refine wc_block ?_
            refine sR ?_
            refine rQ rfl (index_arr tab_ok rfl rfl rfl rfl rfl (by omega) (by assumption)) ?_
            refine rQ rfl (load_i tab_ok rfl rfl) ?_
            refine reg_new (step_C tab_ok (fun K hk => hk)) rfl ?_
            refine reg_store (store_row tab_ok rfl rfl rfl ⟨_, ⟨rfl, rfl, rfl⟩, rfl⟩ rfl) ?_
            refine nR ?_
            refine rC rfl ik0 ?_
            refine rQ rfl (load_box tab_ok rfl rfl ⟨_, rfl, rfl⟩ rfl) ?_
            iterate 2 refine rC rfl ik0 ?_
            refine reg_on rfl rfl (by assumption) ?_
            refine rQ rfl (load_box tab_ok rfl rfl rfl rfl) ?_
            refine reg_on rfl rfl (by assumption) ?_
            refine rC rfl ik0 ?_
            refine reg_on rfl rfl (by assumption) ?_
            refine rQ rfl (call_r hbad rfl rfl (arg_e (arg_e arg_nil)) (.inl rfl) (fun _ => rfl)) ?_
            refine reg_on rfl rfl (by assumption) ?_
            refine rC rfl ik0 ?_
            refine rQ rfl (pick_T tab_ok rfl (by assumption) rfl) ?_
            refine nS ?_
            refine wc_false rfl rfl ?_
            refine wc_skip ?_
            refine blk_n ?_
            refine seq_n ?_
            refine wc_region ?_
            refine rQ rfl (add_int tab_ok rfl rfl (wrap_i64 (by omega) (by omega))) ?_
            refine rC rfl ik0 ?_
            refine reg_nil ?_
            exact loop_n (([] : List Int), j + 1) [] ⟨hjl, hstep.symm⟩ (by show p.length - (j + 1) < p.length - j; omega) (.of rfl rfl rfl rfl rfl ⟨⟨_, rfl, .refl _⟩, rfl, ⟨_, rfl, .refl _⟩, rfl, ⟨_, rfl, .refl _⟩, rfl, ⟨_, rfl, .refl _⟩, rfl, ⟨_, rfl, .refl _⟩, rfl, ⟨_, rfl, .refl _⟩, rfl, ⟨_, rfl, .refl _⟩, rfl, ⟨_, rfl, .refl _⟩, rfl, trivial⟩ trivial)
          | false =>
            rw [hb] at hbad
            rw [if_pos (by rw [touB, hk, hb]; rfl)] at hstep
            have hA : ([] : List Int).length + 1 ≤ 1048576 := by omega
            refine wc_skip ?_
            refine seq_n ?_
            refine wc_seq ?_
            refine wc_block ?_
            refine sR ?_
            refine rQ rfl (index_arr tab_ok rfl rfl rfl rfl rfl (by omega) (by assumption)) ?_
            refine rQ rfl (load_i tab_ok rfl rfl) ?_
            refine reg_new (step_C tab_ok (fun K hk => hk)) rfl ?_
            refine reg_store (store_row tab_ok rfl rfl rfl ⟨_, ⟨rfl, rfl, rfl⟩, rfl⟩ rfl) ?_
            refine nR ?_
            refine rC rfl ik0 ?_
            refine rQ rfl (load_box tab_ok rfl rfl ⟨_, rfl, rfl⟩ rfl) ?_
            iterate 2 refine rC rfl ik0 ?_
            refine reg_on rfl rfl (by assumption) ?_
            refine rQ rfl (load_box tab_ok rfl rfl rfl rfl) ?_
            refine reg_on rfl rfl (by assumption) ?_
            refine rC rfl ik0 ?_
            refine reg_on rfl rfl (by assumption) ?_
            refine rQ rfl (call_r hbad rfl rfl (arg_e (arg_e arg_nil)) (.inl rfl) (fun _ => rfl)) ?_
            refine reg_on rfl rfl (by assumption) ?_
            refine rC rfl ik0 ?_
            refine rQ rfl (pick_T tab_ok rfl (by assumption) rfl) ?_
            refine nS ?_
            refine wc_true rfl rfl ?_
            refine wc_region ?_
            iterate 2 refine rC rfl ik0 ?_
            refine rQ rfl (load_box tab_ok rfl rfl ⟨_, rfl, rfl⟩ rfl) ?_
            refine reg_new (build_slice (s := 1) tab_ok rfl rfl rfl rfl rfl rfl rfl rfl) rfl ?_
            refine reg_new (append_nil_one (s := 1) (enc := i6) tab_ok o.index rfl rfl rfl rfl rfl rfl rfl rfl) rfl ?_
            refine rC rfl ik0 ?_
            refine reg_nil ?_
            refine blk_n ?_
            refine seq_n ?_
            refine wc_region ?_
            refine rQ rfl (add_int tab_ok rfl rfl (wrap_i64 (by omega) (by omega))) ?_
            refine rC rfl ik0 ?_
            refine reg_nil ?_
            exact loop_n ([o.index], j + 1) [(65, some 216)] ⟨hjl, hstep.symm⟩ (by show p.length - (j + 1) < p.length - j; omega) (.of rfl rfl rfl rfl rfl ⟨⟨_, rfl, .refl _⟩, rfl, ⟨_, rfl, .refl _⟩, rfl, ⟨_, rfl, .refl _⟩, rfl, ⟨_, rfl, .refl _⟩, rfl, ⟨_, rfl, .refl _⟩, rfl, ⟨_, rfl, .refl _⟩, rfl, ⟨_, rfl, .refl _⟩, rfl, ⟨_, rfl, .refl _⟩, rfl, trivial⟩ ⟨⟨rfl, rfl, _, rfl, .refl _⟩, trivial⟩)
        · have he : j = p.length := by have := of_decide_eq_false h4; omega
          subst he
          clear h4
          refine wc_exit ?_
          refine seq_x ?_
          refine loop_x ?_
          refine blk_x ?_
          refine blk_n ?_
          refine seq_n ?_
          refine wc_region ?_
          refine rQ rfl (add_int tab_ok rfl rfl (wrap_i64 (by omega) (by omega))) ?_
          refine rC rfl ik0 ?_
          refine reg_nil ?_
          rw [preO_end hp] at hacc
          exact loop_n (([] : List Int), i + 1) [] ⟨hlt, hacc⟩ (by show l.length - (i + 1) < l.length - i; omega) (.of rfl rfl rfl rfl rfl ⟨⟨_, rfl, .refl _⟩, rfl, ⟨_, rfl, .refl _⟩, rfl, ⟨_, rfl, .refl _⟩, rfl, ⟨_, rfl, .refl _⟩, rfl, ⟨_, rfl, .refl _⟩, rfl, trivial⟩ trivial)
      | cons x xs =>
        refine wc_of ?_
        refine sR ?_
        refine rC rfl ik0 ?_
        refine nS ?_
        refine wc_seq ?_
        refine wc_cond rfl (fun h4 => ?_) (fun h4 => ?_)
        · have hjl : j < p.length := by have := of_decide_eq_true h4; omega
          clear h4
          obtain ⟨o, ho⟩ : ∃ o, p[j]? = some o := ⟨_, List.getElem?_eq_getElem hjl⟩
          have ho' : p[((j : Int)).toNat]? = some o := by rw [Int.toNat_natCast]; exact ho
          have hgo := preO_go (l := l) (i := i) ho
          have hle := preO_le (j := j) hp
          have hstep : idxL b (preO l i p (j + 1)) = if touB b o = true then idxL b (preO l i p j) ++ [o.index] else idxL b (preO l i p j) := by rw [hgo, idxL_snoc]
          have hil := idxL_len b (preO l i p j)
          rw [← hacc] at hstep hil
          have hbad := bad_is o b
          by_cases k3 : o.kind = 3
          · have hk : (!decide (o.kind = 3)) = false := by rw [decide_eq_true k3]; rfl
            rw [if_neg (by rw [touB, hk, Bool.false_and]; decide)] at hstep
            refine wc_skip ?_
            refine seq_n ?_
            refine wc_seq ?_
            refine wc_block ?_
            refine sR ?_
            refine rQ rfl (index_arr tab_ok rfl rfl rfl rfl rfl (by omega) (by assumption)) ?_
            refine rQ rfl (load_i tab_ok rfl rfl) ?_
            refine reg_new (step_C tab_ok (fun K hk => hk)) rfl ?_
            refine reg_store (store_row tab_ok rfl rfl rfl ⟨_, ⟨rfl, rfl, rfl⟩, rfl⟩ rfl) ?_
            refine nR ?_
            refine rC rfl ik0 ?_
            refine rQ rfl (load_box tab_ok rfl rfl ⟨_, rfl, rfl⟩ rfl) ?_
            iterate 2 refine rC rfl ik0 ?_
            iterate 4 refine reg_skip rfl rfl (by assumption) rfl rfl ?_
            refine rQ rfl (pick_F tab_ok rfl (by assumption) rfl) ?_
            refine nS ?_
            refine wc_false rfl rfl ?_
            refine wc_skip ?_
            refine blk_n ?_
            refine seq_n ?_
            refine wc_region ?_
            refine rQ rfl (add_int tab_ok rfl rfl (wrap_i64 (by omega) (by omega))) ?_
            refine rC rfl ik0 ?_
            refine reg_nil ?_
            exact loop_n ((x :: xs), j + 1) [] ⟨hjl, hstep.symm⟩ (by show p.length - (j + 1) < p.length - j; omega) (.of rfl rfl rfl rfl rfl ⟨⟨_, rfl, .refl _⟩, rfl, ⟨_, rfl, .refl _⟩, rfl, ⟨_, rfl, .refl _⟩, rfl, ⟨_, rfl, .refl _⟩, rfl, ⟨_, rfl, .refl _⟩, rfl, ⟨_, rfl, .refl _⟩, rfl, ⟨_, rfl, .refl _⟩, rfl, ⟨_, rfl, .refl _⟩, rfl, trivial⟩ ⟨⟨rfl, rfl, _, rfl, .refl _⟩, trivial⟩)
          have hk : (!decide (o.kind = 3)) = true := by rw [decide_eq_false k3]; rfl
          cases hb : badO o b with
          | true =>
            rw [hb] at hbad
            rw [if_neg (by rw [touB, hk, hb]; decide)] at hstep
            refine wc_skip ?_
            refine seq_n ?_
            refine wc_seq ?_
            refine wc_block ?_
            refine sR ?_
            refine rQ rfl (index_arr tab_ok rfl rfl rfl rfl rfl (by omega) (by assumption)) ?_
            refine rQ rfl (load_i tab_ok rfl rfl) ?_
            refine reg_new (step_C tab_ok (fun K hk => hk)) rfl ?_
            refine reg_store (store_row tab_ok rfl rfl rfl ⟨_, ⟨rfl, rfl, rfl⟩, rfl⟩ rfl) ?_
            refine nR ?_
            refine rC rfl ik0 ?_
            refine rQ rfl (load_box tab_ok rfl rfl ⟨_, rfl, rfl⟩ rfl) ?_
            iterate 2 refine rC rfl ik0 ?_
            refine reg_on rfl rfl (by assumption) ?_
            refine rQ rfl (load_box tab_ok rfl rfl rfl rfl) ?_
            refine reg_on rfl rfl (by assumption) ?_
            refine rC rfl ik0 ?_
            refine reg_on rfl rfl (by assumption) ?_
            refine rQ rfl (call_r hbad rfl rfl (arg_e (arg_e arg_nil)) (.inl rfl) (fun _ => rfl)) ?_
            refine reg_on rfl rfl (by assumption) ?_
            refine rC rfl ik0 ?_
            refine rQ rfl (pick_T tab_ok rfl (by assumption) rfl) ?_
            refine nS ?_
            refine wc_false rfl rfl ?_
            refine wc_skip ?_
            refine blk_n ?_
            refine seq_n ?_
            refine wc_region ?_
            refine rQ rfl (add_int tab_ok rfl rfl (wrap_i64 (by omega) (by omega))) ?_
            refine rC rfl ik0 ?_
            refine reg_nil ?_
            exact loop_n ((x :: xs), j + 1) [] ⟨hjl, hstep.symm⟩ (by show p.length - (j + 1) < p.length - j; omega) (.of rfl rfl rfl rfl rfl ⟨⟨_, rfl, .refl _⟩, rfl, ⟨_, rfl, .refl _⟩, rfl, ⟨_, rfl, .refl _⟩, rfl, ⟨_, rfl, .refl _⟩, rfl, ⟨_, rfl, .refl _⟩, rfl, ⟨_, rfl, .refl _⟩, rfl, ⟨_, rfl, .refl _⟩, rfl, ⟨_, rfl, .refl _⟩, rfl, trivial⟩ ⟨⟨rfl, rfl, _, rfl, .refl _⟩, trivial⟩)
          | false =>
            rw [hb] at hbad
            rw [if_pos (by rw [touB, hk, hb]; rfl)] at hstep
            have hA : (x :: xs).length + 1 ≤ 1048576 := by omega
            refine wc_skip ?_
            refine seq_n ?_
            refine wc_seq ?_
            refine wc_block ?_
            refine sR ?_
            refine rQ rfl (index_arr tab_ok rfl rfl rfl rfl rfl (by omega) (by assumption)) ?_
            refine rQ rfl (load_i tab_ok rfl rfl) ?_
            refine reg_new (step_C tab_ok (fun K hk => hk)) rfl ?_
            refine reg_store (store_row tab_ok rfl rfl rfl ⟨_, ⟨rfl, rfl, rfl⟩, rfl⟩ rfl) ?_
            refine nR ?_
            refine rC rfl ik0 ?_
            refine rQ rfl (load_box tab_ok rfl rfl ⟨_, rfl, rfl⟩ rfl) ?_
            iterate 2 refine rC rfl ik0 ?_
            refine reg_on rfl rfl (by assumption) ?_
            refine rQ rfl (load_box tab_ok rfl rfl rfl rfl) ?_
            refine reg_on rfl rfl (by assumption) ?_
            refine rC rfl ik0 ?_
            refine reg_on rfl rfl (by assumption) ?_
            refine rQ rfl (call_r hbad rfl rfl (arg_e (arg_e arg_nil)) (.inl rfl) (fun _ => rfl)) ?_
            refine reg_on rfl rfl (by assumption) ?_
            refine rC rfl ik0 ?_
            refine rQ rfl (pick_T tab_ok rfl (by assumption) rfl) ?_
            refine nS ?_
            refine wc_true rfl rfl ?_
            refine wc_region ?_
            iterate 2 refine rC rfl ik0 ?_
            refine rQ rfl (load_box tab_ok rfl rfl ⟨_, rfl, rfl⟩ rfl) ?_
            refine reg_new (build_slice (s := 1) tab_ok rfl rfl rfl rfl rfl rfl rfl rfl) rfl ?_
            refine reg_new2 (append_one (xs := x :: xs) (s := 1) (enc := i6) tab_ok o.index rfl rfl rfl rfl rfl rfl rfl rfl rfl hA rfl) rfl ?_
            refine rC rfl ik0 ?_
            refine reg_nil ?_
            refine blk_n ?_
            refine seq_n ?_
            refine wc_region ?_
            refine rQ rfl (add_int tab_ok rfl rfl (wrap_i64 (by omega) (by omega))) ?_
            refine rC rfl ik0 ?_
            refine reg_nil ?_
            exact loop_n (x :: (xs ++ [o.index]), j + 1) [(65, some 216)] ⟨hjl, hstep.symm⟩ (by show p.length - (j + 1) < p.length - j; omega) (.of rfl rfl rfl rfl rfl ⟨⟨_, rfl, .refl _⟩, rfl, ⟨_, rfl, .refl _⟩, rfl, ⟨_, rfl, .refl _⟩, rfl, ⟨_, rfl, .refl _⟩, rfl, ⟨_, rfl, .refl _⟩, rfl, ⟨_, rfl, .refl _⟩, rfl, ⟨_, rfl, AVLe.of_eq (by show AV.own 216 0 (xs.length + 1 + 1) 1 none = AV.own 216 0 ((xs ++ [o.index]).length + 1) 1 none; rw [List.length_append]; rfl)⟩, rfl, ⟨_, rfl, .refl _⟩, rfl, trivial⟩ ⟨⟨rfl, rfl, _, rfl, .refl _⟩, trivial⟩)
        · have he : j = p.length := by have := of_decide_eq_false h4; omega
          subst he
          clear h4
          refine wc_exit ?_
          refine seq_x ?_
          refine loop_x ?_
          refine blk_x ?_
          refine blk_n ?_
          refine seq_n ?_
          refine wc_region ?_
          refine rQ rfl (add_int tab_ok rfl rfl (wrap_i64 (by omega) (by omega))) ?_
          refine rC rfl ik0 ?_
          refine reg_nil ?_
          rw [preO_end hp] at hacc
          exact loop_n ((x :: xs), i + 1) [] ⟨hlt, hacc⟩ (by show l.length - (i + 1) < l.length - i; omega) (.of rfl rfl rfl rfl rfl ⟨⟨_, rfl, .refl _⟩, rfl, ⟨_, rfl, .refl _⟩, rfl, ⟨_, rfl, .refl _⟩, rfl, ⟨_, rfl, .refl _⟩, rfl, ⟨_, rfl, .refl _⟩, rfl, trivial⟩ ⟨⟨rfl, rfl, _, rfl, .refl _⟩, trivial⟩)
    · have he : i = l.length := by have := of_decide_eq_false h3; omega
      subst he
      rw [List.take_length] at hacc
      rw [← touL_sort, ← hacc]
      clear h3
      have e0 : Lib.compact (sortI []) = [] := List.eq_nil_of_length_eq_zero (by have := compact_len (sortI []); rw [sort_len] at this; simpa using this)
      rw [e0]
      refine wc_exit ?_
      refine seq_x ?_
      refine loop_x ?_
      refine blk_x ?_
      refine seq_n ?_
      refine sR ?_
      refine rC rfl ik0 ?_
      refine rQ rfl (call_r sort_nil rfl rfl (arg_e arg_nil) (.inl rfl) (fun _ => rfl)) ?_
      refine nR ?_
      refine rC rfl ik0 ?_
      refine rQ rfl (call_r compact_nil rfl rfl (arg_e arg_nil) (.inl rfl) (fun _ => rfl)) ?_
      refine rQ rfl (call_r clonei_nil rfl rfl (arg_e arg_nil) (.inl rfl) (fun _ => rfl)) ?_
      refine rQ rfl (call_r clipi_nil rfl rfl (arg_e arg_nil) (.inl rfl) (fun _ => rfl)) ?_
      refine rC rfl ik0 ?_
      refine nS ?_
      refine wc_ret ?_
      exact ⟨trivial, [], .of rfl rfl rfl rfl rfl ⟨⟨_, rfl, AVLe.of_eq rfl⟩, rfl, trivial⟩ trivial⟩
  | cons x xs =>
    refine wc_of ?_
    refine sR ?_
    refine rC rfl ik0 ?_
    refine nS ?_
    refine wc_seq ?_
    refine wc_cond rfl (fun h3 => ?_) (fun h3 => ?_)
    · have hlt : i < l.length := by have := of_decide_eq_true h3; omega
      clear h3
      obtain ⟨p, hp⟩ : ∃ p, l[i]? = some p := ⟨_, List.getElem?_eq_getElem hlt⟩
      have hp' : l[((i : Int)).toNat]? = some p := by rw [Int.toNat_natCast]; exact hp
      have hfm := flat_mem_le hp
      rw [← preO_zero l i p] at hacc
      refine wc_skip ?_
      refine seq_n ?_
      refine wc_seq ?_
      refine wc_block ?_
      refine sR ?_
      refine rQ rfl (index_arr tab_ok rfl rfl rfl rfl rfl (by omega) (by assumption)) ?_
      refine rQ rfl (load_i tab_ok rfl rfl) ?_
      refine rC rfl ik0 ?_
      refine nR ?_
      refine rC rfl ik0 ?_
      refine rQ rfl (len_arr tab_ok rfl rfl) ?_
      refine rC rfl ik0 ?_
      refine nS ?_
      refine wc_block ?_
      refine wc_inv (tS2 l b i p) (fun a => a.2 ≤ p.length ∧ a.1 = idxL b (preO l i p a.2)) (fun a => p.length - a.2) ((x :: xs), 0) [] ⟨Nat.zero_le _, hacc⟩
        (.of rfl rfl rfl rfl rfl ⟨⟨_, rfl, .refl _⟩, rfl, ⟨_, rfl, .refl _⟩, rfl, ⟨_, rfl, .refl _⟩, rfl, ⟨_, rfl, .refl _⟩, rfl, ⟨_, rfl, .refl _⟩, rfl, ⟨_, rfl, .refl _⟩, rfl, ⟨_, rfl, .refl _⟩, rfl, ⟨_, rfl, .refl _⟩, rfl, trivial⟩ ⟨⟨rfl, rfl, _, rfl, .refl _⟩, trivial⟩) ?_
      rintro ⟨acc, j⟩ ⟨hj, hacc⟩
      simp only at hj hacc
      cases acc with
      | nil =>
        refine wc_of ?_
        refine sR ?_
        refine rC rfl ik0 ?_
        refine nS ?_
        refine wc_seq ?_
        refine wc_cond rfl (fun h4 => ?_) (fun h4 => ?_)
        · have hjl : j < p.length := by have := of_decide_eq_true h4; omega
          clear h4
          obtain ⟨o, ho⟩ : ∃ o, p[j]? = some o := ⟨_, List.getElem?_eq_getElem hjl⟩
          have ho' : p[((j : Int)).toNat]? = some o := by rw [Int.toNat_natCast]; exact ho
          have hgo := preO_go (l := l) (i := i) ho
          have hle := preO_le (j := j) hp
          have hstep : idxL b (preO l i p (j + 1)) = if touB b o = true then idxL b (preO l i p j) ++ [o.index] else idxL b (preO l i p j) := by rw [hgo, idxL_snoc]
          have hil := idxL_len b (preO l i p j)
          rw [← hacc] at hstep hil
          have hbad := bad_is o b
          by_cases k3 : o.kind = 3
          · have hk : (!decide (o.kind = 3)) = false := by rw [decide_eq_true k3]; rfl
            rw [if_neg (by rw [touB, hk, Bool.false_and]; decide)] at hstep
            refine wc_skip ?_
            refine seq_n ?_
            refine wc_seq ?_
            refine wc_block ?_
            refine sR ?_
            refine rQ rfl (index_arr tab_ok rfl rfl rfl rfl rfl (by omega) (by assumption)) ?_
            refine rQ rfl (load_i tab_ok rfl rfl) ?_
            refine reg_new (step_C tab_ok (fun K hk => hk)) rfl ?_
            refine reg_store (store_row tab_ok rfl rfl rfl ⟨_, ⟨rfl, rfl, rfl⟩, rfl⟩ rfl) ?_
            refine nR ?_
            refine rC rfl ik0 ?_
            refine rQ rfl (load_box tab_ok rfl rfl ⟨_, rfl, rfl⟩ rfl) ?_
            iterate 2 refine rC rfl ik0 ?_
            iterate 4 refine reg_skip rfl rfl (by assumption) rfl rfl ?_
            refine rQ rfl (pick_F tab_ok rfl (by assumption) rfl) ?_
            refine nS ?_
            refine wc_false rfl rfl ?_
            refine wc_skip ?_
            refine blk_n ?_
            refine seq_n ?_
            refine wc_region ?_
            refine rQ rfl (add_int tab_ok rfl rfl (wrap_i64 (by omega) (by omega))) ?_
            refine rC rfl ik0 ?_
            refine reg_nil ?_
            exact loop_n (([] : List Int), j + 1) [] ⟨hjl, hstep.symm⟩ (by show p.length - (j + 1) < p.length - j; omega) (.of rfl rfl rfl rfl rfl ⟨⟨_, rfl, .refl _⟩, rfl, ⟨_, rfl, .refl _⟩, rfl, ⟨_, rfl, .refl _⟩, rfl, ⟨_, rfl, .refl _⟩, rfl, ⟨_, rfl, .refl _⟩, rfl, ⟨_, rfl, .refl _⟩, rfl, ⟨_, rfl, .refl _⟩, rfl, ⟨_, rfl, .refl _⟩, rfl, trivial⟩ trivial)
          have hk : (!decide (o.kind = 3)) = true := by rw [decide_eq_false k3]; rfl
          cases hb : badO o b with
          | true =>
            rw [hb] at hbad
            rw [if_neg (by rw [touB, hk, hb]; decide)] at hstep
            refine wc_skip ?_
            refine seq_n ?_
            refine wc_seq ?_
            refine wc_block ?_
            refine sR ?_
            refine rQ rfl (index_arr tab_ok rfl rfl rfl rfl rfl (by omega) (by assumption)) ?_
            refine rQ rfl (load_i tab_ok rfl rfl) ?_
            refine reg_new (step_C tab_ok (fun K hk => hk)) rfl ?_
            refine reg_store (store_row tab_ok rfl rfl rfl ⟨_, ⟨rfl, rfl, rfl⟩, rfl⟩ rfl) ?_
            refine nR ?_
            refine rC rfl ik0 ?_
            refine rQ rfl (load_box tab_ok rfl rfl ⟨_, rfl, rfl⟩ rfl) ?_
            iterate 2 refine rC rfl ik0 ?_
            refine reg_on rfl rfl (by assumption) ?_
            refine rQ rfl (load_box tab_ok rfl rfl rfl rfl) ?_
            refine reg_on rfl rfl (by assumption) ?_
            refine rC rfl ik0 ?_
            refine reg_on rfl rfl (by assumption) ?_
            refine rQ rfl (call_r hbad rfl rfl (arg_e (arg_e arg_nil)) (.inl rfl) (fun _ => rfl)) ?_
            refine reg_on rfl rfl (by assumption) ?_
            refine rC rfl ik0 ?_
            refine rQ rfl (pick_T tab_ok rfl (by assumption) rfl) ?_
            refine nS ?_
            refine wc_false rfl rfl ?_
            refine wc_skip ?_
            refine blk_n ?_
            refine seq_n ?_
            refine wc_region ?_
            refine rQ rfl (add_int tab_ok rfl rfl (wrap_i64 (by omega) (by omega))) ?_
            refine rC rfl ik0 ?_
            refine reg_nil ?_
            exact loop_n (([] : List Int), j + 1) [] ⟨hjl, hstep.symm⟩ (by show p.length - (j + 1) < p.length - j; omega) (.of rfl rfl rfl rfl rfl ⟨⟨_, rfl, .refl _⟩, rfl, ⟨_, rfl, .refl _⟩, rfl, ⟨_, rfl, .refl _⟩, rfl, ⟨_, rfl, .refl _⟩, rfl, ⟨_, rfl, .refl _⟩, rfl, ⟨_, rfl, .refl _⟩, rfl, ⟨_, rfl, .refl _⟩, rfl, ⟨_, rfl, .refl _⟩, rfl, trivial⟩ trivial)
          | false =>
            rw [hb] at hbad
            rw [if_pos (by rw [touB, hk, hb]; rfl)] at hstep
            have hA : ([] : List Int).length + 1 ≤ 1048576 := by omega
            refine wc_skip ?_
            refine seq_n ?_
            refine wc_seq ?_
            refine wc_block ?_
            refine sR ?_
            refine rQ rfl (index_arr tab_ok rfl rfl rfl rfl rfl (by omega) (by assumption)) ?_
            refine rQ rfl (load_i tab_ok rfl rfl) ?_
            refine reg_new (step_C tab_ok (fun K hk => hk)) rfl ?_
            refine reg_store (store_row tab_ok rfl rfl rfl ⟨_, ⟨rfl, rfl, rfl⟩, rfl⟩ rfl) ?_
            refine nR ?_
            refine rC rfl ik0 ?_
            refine rQ rfl (load_box tab_ok rfl rfl ⟨_, rfl, rfl⟩ rfl) ?_
            iterate 2 refine rC rfl ik0 ?_
            refine reg_on rfl rfl (by assumption) ?_
            refine rQ rfl (load_box tab_ok rfl rfl rfl rfl) ?_
            refine reg_on rfl rfl (by assumption) ?_
            refine rC rfl ik0 ?_
            refine reg_on rfl rfl (by assumption) ?_
            refine rQ rfl (call_r hbad rfl rfl (arg_e (arg_e arg_nil)) (.inl rfl) (fun _ => rfl)) ?_
            refine reg_on rfl rfl (by assumption) ?_
            refine rC rfl ik0 ?_
            refine rQ rfl (pick_T tab_ok rfl (by assumption) rfl) ?_
            refine nS ?_
            refine wc_true rfl rfl ?_
            refine wc_region ?_
            iterate 2 refine rC rfl ik0 ?_
            refine rQ rfl (load_box tab_ok rfl rfl ⟨_, rfl, rfl⟩ rfl) ?_
            refine reg_new (build_slice (s := 1) tab_ok rfl rfl rfl rfl rfl rfl rfl rfl) rfl ?_
            refine reg_new (append_nil_one (s := 1) (enc := i6) tab_ok o.index rfl rfl rfl rfl rfl rfl rfl rfl) rfl ?_
            refine rC rfl ik0 ?_
            refine reg_nil ?_
            refine blk_n ?_
            refine seq_n ?_
            refine wc_region ?_
            refine rQ rfl (add_int tab_ok rfl rfl (wrap_i64 (by omega) (by omega))) ?_
            refine rC rfl ik0 ?_
            refine reg_nil ?_
            exact loop_n ([o.index], j + 1) [(65, some 216)] ⟨hjl, hstep.symm⟩ (by show p.length - (j + 1) < p.length - j; omega) (.of rfl rfl rfl rfl rfl ⟨⟨_, rfl, .refl _⟩, rfl, ⟨_, rfl, .refl _⟩, rfl, ⟨_, rfl, .refl _⟩, rfl, ⟨_, rfl, .refl _⟩, rfl, ⟨_, rfl, .refl _⟩, rfl, ⟨_, rfl, .refl _⟩, rfl, ⟨_, rfl, .refl _⟩, rfl, ⟨_, rfl, .refl _⟩, rfl, trivial⟩ ⟨⟨rfl, rfl, _, rfl, .refl _⟩, trivial⟩)
        · have he : j = p.length := by have := of_decide_eq_false h4; omega
          subst he
          clear h4
          refine wc_exit ?_
          refine seq_x ?_
          refine loop_x ?_
          refine blk_x ?_
          refine blk_n ?_
          refine seq_n ?_
          refine wc_region ?_
          refine rQ rfl (add_int tab_ok rfl rfl (wrap_i64 (by omega) (by omega))) ?_
          refine rC rfl ik0 ?_
          refine reg_nil ?_
          rw [preO_end hp] at hacc
          exact loop_n (([] : List Int), i + 1) [] ⟨hlt, hacc⟩ (by show l.length - (i + 1) < l.length - i; omega) (.of rfl rfl rfl rfl rfl ⟨⟨_, rfl, .refl _⟩, rfl, ⟨_, rfl, .refl _⟩, rfl, ⟨_, rfl, .refl _⟩, rfl, ⟨_, rfl, .refl _⟩, rfl, ⟨_, rfl, .refl _⟩, rfl, trivial⟩ trivial)
      | cons x xs =>
        refine wc_of ?_
        refine sR ?_
        refine rC rfl ik0 ?_
        refine nS ?_
        refine wc_seq ?_
        refine wc_cond rfl (fun h4 => ?_) (fun h4 => ?_)
        · have hjl : j < p.length := by have := of_decide_eq_true h4; omega
          clear h4
          obtain ⟨o, ho⟩ : ∃ o, p[j]? = some o := ⟨_, List.getElem?_eq_getElem hjl⟩
          have ho' : p[((j : Int)).toNat]? = some o := by rw [Int.toNat_natCast]; exact ho
          have hgo := preO_go (l := l) (i := i) ho
          have hle := preO_le (j := j) hp
          have hstep : idxL b (preO l i p (j + 1)) = if touB b o = true then idxL b (preO l i p j) ++ [o.index] else idxL b (preO l i p j) := by rw [hgo, idxL_snoc]
          have hil := idxL_len b (preO l i p j)
          rw [← hacc] at hstep hil
          have hbad := bad_is o b
          by_cases k3 : o.kind = 3
          · have hk : (!decide (o.kind = 3)) = false := by rw [decide_eq_true k3]; rfl
            rw [if_neg (by rw [touB, hk, Bool.false_and]; decide)] at hstep
            refine wc_skip ?_
            refine seq_n ?_
            refine wc_seq ?_
            refine wc_block ?_
            refine sR ?_
            refine rQ rfl (index_arr tab_ok rfl rfl rfl rfl rfl (by omega) (by assumption)) ?_
            refine rQ rfl (load_i tab_ok rfl rfl) ?_
            refine reg_new (step_C tab_ok (fun K hk => hk)) rfl ?_
            refine reg_store (store_row tab_ok rfl rfl rfl ⟨_, ⟨rfl, rfl, rfl⟩, rfl⟩ rfl) ?_
            refine nR ?_
            refine rC rfl ik0 ?_
            refine rQ rfl (load_box tab_ok rfl rfl ⟨_, rfl, rfl⟩ rfl) ?_
            iterate 2 refine rC rfl ik0 ?_
            iterate 4 refine reg_skip rfl rfl (by assumption) rfl rfl ?_
            refine rQ rfl (pick_F tab_ok rfl (by assumption) rfl) ?_
            refine nS ?_
            refine wc_false rfl rfl ?_
            refine wc_skip ?_
            refine blk_n ?_
            refine seq_n ?_
            refine wc_region ?_
            refine rQ rfl (add_int tab_ok rfl rfl (wrap_i64 (by omega) (by omega))) ?_
            refine rC rfl ik0 ?_
            refine reg_nil ?_
            exact loop_n ((x :: xs), j + 1) [] ⟨hjl, hstep.symm⟩ (by show p.length - (j + 1) < p.length - j; omega) (.of rfl rfl rfl rfl rfl ⟨⟨_, rfl, .refl _⟩, rfl, ⟨_, rfl, .refl _⟩, rfl, ⟨_, rfl, .refl _⟩, rfl, ⟨_, rfl, .refl _⟩, rfl, ⟨_, rfl, .refl _⟩, rfl, ⟨_, rfl, .refl _⟩, rfl, ⟨_, rfl, .refl _⟩, rfl, ⟨_, rfl, .refl _⟩, rfl, trivial⟩ ⟨⟨rfl, rfl, _, rfl, .refl _⟩, trivial⟩)
          have hk : (!decide (o.kind = 3)) = true := by rw [decide_eq_false k3]; rfl
          cases hb : badO o b with
          | true =>
            rw [hb] at hbad
            rw [if_neg (by rw [touB, hk, hb]; decide)] at hstep
            refine wc_skip ?_
            refine seq_n ?_
            refine wc_seq ?_
            refine wc_block ?_
            refine sR ?_
            refine rQ rfl (index_arr tab_ok rfl rfl rfl rfl rfl (by omega) (by assumption)) ?_
            refine rQ rfl (load_i tab_ok rfl rfl) ?_
            refine reg_new (step_C tab_ok (fun K hk => hk)) rfl ?_
            refine reg_store (store_row tab_ok rfl rfl rfl ⟨_, ⟨rfl, rfl, rfl⟩, rfl⟩ rfl) ?_
            refine nR ?_
            refine rC rfl ik0 ?_
            refine rQ rfl (load_box tab_ok rfl rfl ⟨_, rfl, rfl⟩ rfl) ?_
            iterate 2 refine rC rfl ik0 ?_
            refine reg_on rfl rfl (by assumption) ?_
            refine rQ rfl (load_box tab_ok rfl rfl rfl rfl) ?_
            refine reg_on rfl rfl (by assumption) ?_
            refine rC rfl ik0 ?_
            refine reg_on rfl rfl (by assumption) ?_
            refine rQ rfl (call_r hbad rfl rfl (arg_e (arg_e arg_nil)) (.inl rfl) (fun _ => rfl)) ?_
            refine reg_on rfl rfl (by assumption) ?_
            refine rC rfl ik0 ?_
            refine rQ rfl (pick_T tab_ok rfl (by assumption) rfl) ?_
            refine nS ?_
            refine wc_false rfl rfl ?_
            refine wc_skip ?_
            refine blk_n ?_
            refine seq_n ?_
            refine wc_region ?_
            refine rQ rfl (add_int tab_ok rfl rfl (wrap_i64 (by omega) (by omega))) ?_
            refine rC rfl ik0 ?_
            refine reg_nil ?_
            exact loop_n ((x :: xs), j + 1) [] ⟨hjl, hstep.symm⟩ (by show p.length - (j + 1) < p.length - j; omega) (.of rfl rfl rfl rfl rfl ⟨⟨_, rfl, .refl _⟩, rfl, ⟨_, rfl, .refl _⟩, rfl, ⟨_, rfl, .refl _⟩, rfl, ⟨_, rfl, .refl _⟩, rfl, ⟨_, rfl, .refl _⟩, rfl, ⟨_, rfl, .refl _⟩, rfl, ⟨_, rfl, .refl _⟩, rfl, ⟨_, rfl, .refl _⟩, rfl, trivial⟩ ⟨⟨rfl, rfl, _, rfl, .refl _⟩, trivial⟩)
          | false =>
            rw [hb] at hbad
            rw [if_pos (by rw [touB, hk, hb]; rfl)] at hstep
            have hA : (x :: xs).length + 1 ≤ 1048576 := by omega
            refine wc_skip ?_
            refine seq_n ?_
            refine wc_seq ?_
            refine wc_block ?_
            refine sR ?_
            refine rQ rfl (index_arr tab_ok rfl rfl rfl rfl rfl (by omega) (by assumption)) ?_
            refine rQ rfl (load_i tab_ok rfl rfl) ?_
            refine reg_new (step_C tab_ok (fun K hk => hk)) rfl ?_
            refine reg_store (store_row tab_ok rfl rfl rfl ⟨_, ⟨rfl, rfl, rfl⟩, rfl⟩ rfl) ?_
            refine nR ?_
            refine rC rfl ik0 ?_
            refine rQ rfl (load_box tab_ok rfl rfl ⟨_, rfl, rfl⟩ rfl) ?_
            iterate 2 refine rC rfl ik0 ?_
            refine reg_on rfl rfl (by assumption) ?_
            refine rQ rfl (load_box tab_ok rfl rfl rfl rfl) ?_
            refine reg_on rfl rfl (by assumption) ?_
            refine rC rfl ik0 ?_
            refine reg_on rfl rfl (by assumption) ?_
            refine rQ rfl (call_r hbad rfl rfl (arg_e (arg_e arg_nil)) (.inl rfl) (fun _ => rfl)) ?_
            refine reg_on rfl rfl (by assumption) ?_
            refine rC rfl ik0 ?_
            refine rQ rfl (pick_T tab_ok rfl (by assumption) rfl) ?_
            refine nS ?_
            refine wc_true rfl rfl ?_
            refine wc_region ?_
            iterate 2 refine rC rfl ik0 ?_
            refine rQ rfl (load_box tab_ok rfl rfl ⟨_, rfl, rfl⟩ rfl) ?_
            refine reg_new (build_slice (s := 1) tab_ok rfl rfl rfl rfl rfl rfl rfl rfl) rfl ?_
            refine reg_new2 (append_one (xs := x :: xs) (s := 1) (enc := i6) tab_ok o.index rfl rfl rfl rfl rfl rfl rfl rfl rfl hA rfl) rfl ?_
            refine rC rfl ik0 ?_
            refine reg_nil ?_
            refine blk_n ?_
            refine seq_n ?_
            refine wc_region ?_
            refine rQ rfl (add_int tab_ok rfl rfl (wrap_i64 (by omega) (by omega))) ?_
            refine rC rfl ik0 ?_
            refine reg_nil ?_
            exact loop_n (x :: (xs ++ [o.index]), j + 1) [(65, some 216)] ⟨hjl, hstep.symm⟩ (by show p.length - (j + 1) < p.length - j; omega) (.of rfl rfl rfl rfl rfl ⟨⟨_, rfl, .refl _⟩, rfl, ⟨_, rfl, .refl _⟩, rfl, ⟨_, rfl, .refl _⟩, rfl, ⟨_, rfl, .refl _⟩, rfl, ⟨_, rfl, .refl _⟩, rfl, ⟨_, rfl, .refl _⟩, rfl, ⟨_, rfl, AVLe.of_eq (by show AV.own 216 0 (xs.length + 1 + 1) 1 none = AV.own 216 0 ((xs ++ [o.index]).length + 1) 1 none; rw [List.length_append]; rfl)⟩, rfl, ⟨_, rfl, .refl _⟩, rfl, trivial⟩ ⟨⟨rfl, rfl, _, rfl, .refl _⟩, trivial⟩)
        · have he : j = p.length := by have := of_decide_eq_false h4; omega
          subst he
          clear h4
          refine wc_exit ?_
          refine seq_x ?_
          refine loop_x ?_
          refine blk_x ?_
          refine blk_n ?_
          refine seq_n ?_
          refine wc_region ?_
          refine rQ rfl (add_int tab_ok rfl rfl (wrap_i64 (by omega) (by omega))) ?_
          refine rC rfl ik0 ?_
          refine reg_nil ?_
          rw [preO_end hp] at hacc
          exact loop_n ((x :: xs), i + 1) [] ⟨hlt, hacc⟩ (by show l.length - (i + 1) < l.length - i; omega) (.of rfl rfl rfl rfl rfl ⟨⟨_, rfl, .refl _⟩, rfl, ⟨_, rfl, .refl _⟩, rfl, ⟨_, rfl, .refl _⟩, rfl, ⟨_, rfl, .refl _⟩, rfl, ⟨_, rfl, .refl _⟩, rfl, trivial⟩ ⟨⟨rfl, rfl, _, rfl, .refl _⟩, trivial⟩)
    · have he : i = l.length := by have := of_decide_eq_false h3; omega
      subst he
      rw [List.take_length] at hacc
      rw [← touL_sort, ← hacc]
      clear h3
      have hil := idxL_len b l.flatten
      rw [← hacc] at hil
      have hsort := sort_is (x :: xs) (by simp) (by omega)
      have hsl : (sortI (x :: xs)).length = (x :: xs).length := sort_len _
      have hcomp := compact_is (sortI (x :: xs)) (by rw [hsl]; simp) (by rw [hsl]; omega)
      have hcl := compact_len (sortI (x :: xs))
      rw [hsl] at hcomp
      have hcp : 0 < (Lib.compact (sortI (x :: xs))).length := by
        have := ((csort (x :: xs)).2 x).2 (by simp)
        exact List.length_pos_of_mem this
      have hclone := clonei_is (Lib.compact (sortI (x :: xs))) hcp (by omega)
      refine wc_exit ?_
      refine seq_x ?_
      refine loop_x ?_
      refine blk_x ?_
      refine seq_n ?_
      refine sR ?_
      refine rC rfl ik0 ?_
      refine reg_new2 (call_h [(0, some 65)] hsort rfl rfl rfl (arg_give rfl rfl arg_nil) ⟨⟨rfl, rfl, _, _, rfl, rfl, .refl _⟩, trivial⟩ rfl rfl (.inl rfl) rfl rfl) rfl ?_
      refine nR ?_
      refine rC rfl ik0 ?_
      refine reg_new (call_h [(0, some 65)] hcomp rfl rfl rfl (arg_give rfl rfl arg_nil) ⟨⟨rfl, rfl, _, _, rfl, rfl, .refl _⟩, trivial⟩ rfl rfl (.inl rfl) rfl rfl) rfl ?_
      refine rQ rfl (call_r hclone rfl rfl (arg_e arg_nil) (.inl rfl) (fun _ => rfl)) ?_
      refine rQ rfl (call_r (clipi_is _) rfl rfl (arg_e arg_nil) (.inl rfl) (fun _ => rfl)) ?_
      refine rC rfl ik0 ?_
      refine nS ?_
      refine wc_ret ?_
      exact ⟨trivial, [], .of rfl rfl rfl rfl rfl ⟨⟨_, rfl, AVLe.of_eq rfl⟩, rfl, trivial⟩ trivial⟩
end Go.Proofs.YtmojbghcngdkpaaGreatDoor

namespace Go.Proofs.YtmojbghcngdkpaaGreatDoor
open Go.Eng Go.Plain
set_option maxHeartbeats 4000000
set_option maxRecDepth 20000
attribute [local irreducible] WC RegS RegD SeqQ BlkQ ScoQ RegK CutK Sat SatN FnIs LoopQ StepIs OpIs
/-- An operation whose data is nil, or not. -/
def encV : Bool × POp → D
  | (true, o) => .cons (u8s o.kind) (.cons (i6 o.index) (.cons (.sc nil_) .nil))
  | (false, o) => encPOp o
theorem encV_size (x : Bool × POp) : (encV x).size = 3 := by obtain ⟨b, o⟩ := x; cases b <;> rfl
def VOk (x : Bool × POp) : Prop := x.1 = true → x.2.data = []
theorem encV_le {w : World} {X : Nat → Prop} {x : Bool × POp} (hx : VOk x) {cs : List Value} (h : Enc w X (encV x) cs) : Enc w X (encPOp x.2) cs := by
  obtain ⟨b, o⟩ := x
  cases b with
  | false => exact h
  | true =>
    have hd : o.data = [] := hx rfl
    obtain ⟨c1, r1, rfl, h1, c2, r2, rfl, h2, c3, r3, rfl, h3, h4⟩ := h
    exact ⟨c1, _, rfl, h1, c2, _, rfl, h2, c3, r3, rfl, .inl ⟨by rw [hd]; rfl, h3.1⟩, h4⟩
theorem dle_arr {α β : Type} {s : Nat} {enc : α → D} {enc' : β → D} {g : α → β} {xs : List α} {ys : List β} (hy : ys = xs.map g) (h : ∀ x ∈ xs, DLe (enc x) (enc' (g x))) : DLe (.arr s enc xs) (.arr s enc' ys) := by
  subst hy
  rintro w X cs (⟨rfl, rfl⟩ | ⟨a, c, rfl, h1, h2, f, hf⟩)
  · exact .inl ⟨rfl, rfl⟩
  · refine .inr ⟨a, c, by rw [List.length_map], by rw [List.length_map]; exact h1, h2, f, fun i hi => ?_⟩
    rw [List.length_map] at hi
    obtain ⟨g1, g2, g3⟩ := hf i hi
    refine ⟨?_, g2, g3⟩
    rw [List.getElem_map]
    exact h _ (List.getElem_mem _) _ _ _ g1
abbrev encPV (l : List (Bool × POp)) : D := .arr 3 encV l
theorem encPV_le {l : List (Bool × POp)} {p : List POp} (hp : p = l.map (·.2)) (hl : ∀ x ∈ l, VOk x) : DLe (encPV l) (encP p) := dle_arr hp fun x hx w X cs h => encV_le (hl x hx) h
theorem encPLV_le {l : List (List (Bool × POp))} {L : List (List POp)} (hp : L = l.map fun q => q.map (·.2)) (hl : ∀ q ∈ l, ∀ x ∈ q, VOk x) : DLe (.arr 1 encPV l) (encPL L) := dle_arr hp fun q hq => encPV_le rfl (hl q hq)
def pairV : List (List (Bool × POp)) := [[(true, ⟨1, 3, []⟩), (false, ⟨2, 1, [0, 255]⟩)], [(true, ⟨3, 0, []⟩)]]
def pairL : List (List POp) := [[⟨1, 3, []⟩, ⟨2, 1, [0, 255]⟩], [⟨3, 0, []⟩]]
theorem pairV_le : AVLe (.d (.arr 1 encPV pairV)) (.d (encPL pairL)) := AVLe.d (encPLV_le rfl (by
  intro q hq x hx
  simp only [pairV, List.mem_cons, List.not_mem_nil, or_false] at hq
  rcases hq with rfl | rfl <;> simp only [List.mem_cons, List.not_mem_nil, or_false] at hx
  · rcases hx with rfl | rfl
    · exact fun _ => rfl
    · exact fun h => by cases h
  · subst hx; exact fun _ => rfl)) rfl
abbrev vA : Bool × POp := (true, ⟨1, 3, []⟩)
abbrev vB : Bool × POp := (false, ⟨2, 1, [0, 255]⟩)
abbrev vC : Bool × POp := (true, ⟨3, 0, []⟩)
abbrev vAB : List (Bool × POp) := [vA, vB]
abbrev vC1 : List (Bool × POp) := [vC]
theorem pair_is : FnIs Tryz.prog 79 [] [] (.d (encPL pairL)) [] := by
  refine fnIs_of tab_ok Tryz.func79 rfl rfl rfl ?_
  refine sR ?_
  refine rC rfl ik0 ?_
  refine nR ?_
  refine rQ rfl (build_struct tab_ok rfl rfl rfl rfl) ?_
  refine reg_new (build_slice (s := 1) tab_ok rfl rfl rfl rfl rfl rfl rfl rfl) rfl ?_
  refine reg_freeze (env' := [(2, _), (1, _)]) (h' := []) 80 _ rfl ⟨⟨_, rfl, Frz.lits2 (enc := encU8) (0 : Int) (255 : Int) rfl rfl rfl rfl⟩, ⟨_, rfl, .refl _⟩, trivial⟩ trivial ?_
  refine rQ rfl (build_struct tab_ok rfl rfl rfl rfl) ?_
  refine reg_new (build_slice (s := 3) tab_ok rfl rfl rfl rfl rfl rfl rfl rfl) rfl ?_
  refine reg_freeze (env' := [(4, _)]) (h' := []) 96 _ rfl ⟨⟨_, rfl, Frz.lits2 (enc := encV) vA vB rfl rfl rfl rfl⟩, trivial⟩ trivial ?_
  refine rQ rfl (build_struct tab_ok rfl rfl rfl rfl) ?_
  refine reg_new (build_slice (s := 3) tab_ok rfl rfl rfl rfl rfl rfl rfl rfl) rfl ?_
  refine reg_freeze (env' := [(6, _), (4, _)]) (h' := []) 112 _ rfl ⟨⟨_, rfl, Frz.lits1 (enc := encV) vC rfl rfl⟩, ⟨_, rfl, .refl _⟩, trivial⟩ trivial ?_
  refine reg_new (build_slice (s := 1) tab_ok rfl rfl rfl rfl rfl rfl rfl rfl) rfl ?_
  refine reg_freeze (env' := [(7, _)]) (h' := []) 120 _ rfl ⟨⟨_, rfl, Frz.lits2 (enc := encPV) vAB vC1 rfl rfl rfl rfl⟩, trivial⟩ trivial ?_
  refine rC rfl ik0 ?_
  refine nS ?_
  refine wc_ret ?_
  exact ⟨trivial, [], .of rfl rfl rfl rfl rfl ⟨⟨_, rfl, pairV_le⟩, rfl, trivial⟩ trivial⟩
end Go.Proofs.YtmojbghcngdkpaaGreatDoor

namespace Go.Proofs.YtmojbghcngdkpaaGreatDoor
open Go.Eng Go.Plain
set_option maxHeartbeats 4000000
set_option maxRecDepth 20000
attribute [local irreducible] WC RegS RegD SeqQ BlkQ ScoQ RegK CutK Sat SatN FnIs LoopQ StepIs OpIs
structure PQ where
  kind : UInt8
  index : UInt8
  data : UInt8
def encQ (x : PQ) : D := .cons (u8s x.kind.toNat) (.cons (u8s x.index.toNat) (.cons (u8s x.data.toNat) .nil))
def qOf (x : PQ) : POp :=
  if x.kind.toNat % 9 < 4 then ⟨1, ((x.index.toNat % 22 : Nat) : Int) - 1, []⟩
  else if x.kind.toNat % 9 < 7 then ⟨2, ((x.index.toNat % 22 : Nat) : Int) - 1, List.replicate 32 x.data⟩
  else if x.kind.toNat % 9 = 8 then ⟨((x.data.toNat % 4 : Nat) : Int), (x.index.toNat : Int) - 100, List.replicate (x.index.toNat % 32) x.data⟩
  else ⟨3, 0, []⟩
def fillL (d : Int) (n i : Nat) : List Int := List.replicate i d ++ List.replicate (n - i) 0
end Go.Proofs.YtmojbghcngdkpaaGreatDoor

namespace Go.Proofs.YtmojbghcngdkpaaGreatDoor
open Go.Eng Go.Plain
set_option maxHeartbeats 4000000
set_option maxRecDepth 20000
attribute [local irreducible] WC RegS RegD SeqQ BlkQ ScoQ RegK CutK Sat SatN FnIs LoopQ StepIs OpIs
abbrev encQs (q : List PQ) : D := .arr 3 encQ q
def encPP (l : List (List PQ)) : D := .cons (.arr 1 encQs l) .nil
def opsOf (q : List PQ) : List POp := (q.take 3).map qOf
def pOf (l : List (List PQ)) : List (List POp) := (l.take 3).map opsOf
end Go.Proofs.YtmojbghcngdkpaaGreatDoor

namespace Go.Eng
open Go.RowKit
variable {P : Program} {op : Op} {env : Env} {h : Upds} {n : Nat} {av av' : AV} {row : Row}
theorem StepIs.frozen (hs : StepIs P op env h n (some av) [(n, some row)]) (hf : Frz n row av av') : StepIs P op env h n (some av') [] := by
  intro C G st σ w a o ho hA hd hst hn hb next Q hnext
  refine hs C G st σ w a o ho hA hd hst hn hb next Q fun x w' σ' G' hst' h1 h2 => ?_
  have hnr : ∀ q row', st.row q = some row' → q ≠ n := fun q row' hq e => by
    subst e
    exact hn q (Nat.le_refl _) (by omega) (hst.rowsG _ _ hq).1
  have hrow : (st.put o.dst (some av) [(n, some row)]).row n = some row := by
    simp [St.put, St.row, lk_cons]
  have hrow2 : ∀ q row', q ≠ n → st.row q = some row' → (st.put o.dst (some av) [(n, some row)]).row q = some row' := fun q row' hq hr => by
    simp only [St.put, St.row, List.cons_append, List.nil_append, lk_cons, if_neg (Ne.symm hq)]
    exact hr
  refine hnext x w' σ' G' (hst'.freeze (st' := st.put o.dst (some av') []) n row hrow (fun i v' hi => ?_) (fun q x' hq => ?_) rfl rfl) h1 h2
  · cases hdst : o.dst with
    | none =>
      simp only [St.put, hdst] at hi ⊢
      exact ⟨v', hi, .refl _⟩
    | some d =>
      simp only [St.put, hdst, lk_cons] at hi ⊢
      split at hi
      · rename_i e
        rw [if_pos e]
        simp only [Option.some.injEq] at hi
        exact ⟨av, rfl, by rw [← hi]; exact hf⟩
      · rename_i e
        rw [if_neg e]
        exact ⟨v', hi, .refl _⟩
  · have hq' : st.row q = some x' := hq
    exact ⟨hnr q x' hq', x', hrow2 q x' (hnr q x' hq') hq', .refl _⟩
end Go.Eng

namespace Go.Eng
open Go.RowKit
variable {P : Program} {T : Tab} {env : Env} {h : Upds} {n : Nat}
def offsA (e s : Nat) : Nat → List (Nat × Nat)
  | 0 => []
  | k + 1 => offsA e s k ++ [(k * s, e)]
theorem offsA_len (e s : Nat) : ∀ k, (offsA e s k).length = k
  | 0 => rfl
  | k + 1 => by rw [offsA, List.length_append, offsA_len e s k]; rfl
theorem offsA_get {e s : Nat} : ∀ (m k o t : Nat), (offsA e s m)[k]? = some (o, t) → t = e ∧ o = k * s
  | 0, k, o, t, h => by simp [offsA] at h
  | m + 1, k, o, t, h => by
    rw [offsA] at h
    rcases Nat.lt_or_ge k m with hk | hk
    · rw [List.getElem?_append_left (by rw [offsA_len]; exact hk)] at h
      exact offsA_get m k o t h
    · rw [List.getElem?_append_right (by rw [offsA_len]; exact hk), offsA_len] at h
      have : k - m = 0 := by
        rcases Nat.eq_zero_or_pos (k - m) with e | e
        · exact e
        · rw [List.getElem?_eq_none (by simp; omega)] at h; cases h
      rw [this] at h
      simp only [List.getElem?_cons_zero, Option.some.injEq, Prod.mk.injEq] at h
      have e : k = m := by omega
      subst e
      exact ⟨h.2.symm, h.1.symm⟩
/-- An array built of some parts. -/
theorem build_arr (hT : TabOk P T) {t e len : Nat} {r re : TyR} {parts : Array (Nat × Operand)} {q : AV} (ht : lk T t = some r) (hd : r.desc = .array len e) (he : lk T e = some re) (hq : buildF T (offsA e re.size len) (evalA env) parts.toList (.d r.zero) = some q) (hag : q.isAgg = true) :
    StepIs P (.build t parts) env h n (some q) [] := .of_comes fun C G st σ w a o ho hA hdst hst hn => by
  obtain ⟨u, hu, hdu⟩ := (hT t r ht).und
  rw [hd] at hdu
  cases hdu
  obtain ⟨z, hz, hzc⟩ := (hT t r ht).run_zero w
  have henc : Rel σ w (st.X C.X0 σ) (.d r.zero) false z.cells.toList := by rw [← hzc]; exact Enc.closed _ _ _ (hT t r ht).zero
  obtain ⟨cs', hfill, h1, h2, h3⟩ := buildF_sound hT hst hA (pl := fun k => some (k * re.size, re.size)) (fun k o t' r' ho hr' => by
    obtain ⟨rfl, rfl⟩ := offsA_get _ _ _ _ ho
    rw [he] at hr'
    cases hr'
    rfl) parts.toList (.d r.zero) q z.cells.toList hq rfl trivial henc
  refine .quiet (u := .agg cs'.toArray) hst hdst ⟨rfl, rfl⟩ ?_ (by unfold RelV; rw [if_pos hag]; exact ⟨cs', rfl, h1⟩) h3
  have hcs : z.cells.toList.toArray = z.cells := by simp
  have hpt : (parts.map fun x => (x.1, a.eval x.2)).toList = parts.toList.map fun x => (x.1, a.eval x.2) := by simp
  rw [hcs, ← hpt] at hfill
  have hb : (Instr.build t (parts.map fun x => (x.1, a.eval x.2))).run P w = .ok (.agg cs'.toArray) w := by
    simp only [Instr.build, Sem.run_bind, hz, Result.andThen_ok, run_underlying hu, (hT e re he).run_size, hfill, Sem.run_pure]
  simp only [execOp, ho, Sem.run_bind]
  rw [show (parts.map fun (x : Nat × Operand) => match x with | (i, x) => (i, a.eval x)) = parts.map fun x => (x.1, a.eval x.2) from rfl, hb]
  rfl
end Go.Eng

namespace Go.Proofs.YtmojbghcngdkpaaGreatDoor
open Go.Eng Go.Plain
def tx1 : List UInt8 := [99, 108, 105, 101, 110, 116, 10, 114, 101, 97, 100, 32, 51, 10, 119, 114, 105, 116, 101, 32, 49, 32, 48, 48, 102, 102, 10, 99, 108, 105, 101, 110, 116, 10, 102, 108, 117, 115, 104, 10]
def tx2 : List UInt8 := [99, 108, 105, 101, 110, 116, 10, 111, 112, 32, 51, 32, 55, 32, 45, 10, 119, 114, 105, 116, 101, 32, 48, 32, 45, 10, 111, 112, 32, 49, 32, 49, 32, 48, 97, 10]
def list2 : List (List POp) := [[⟨3, 7, []⟩, ⟨2, 0, []⟩, ⟨1, 1, [10]⟩]]
abbrev vD : Bool × POp := (true, ⟨3, 7, []⟩)
abbrev vE : Bool × POp := (true, ⟨2, 0, []⟩)
abbrev vF : Bool × POp := (false, ⟨1, 1, [10]⟩)
abbrev list2V : List (List (Bool × POp)) := [[vD, vE, vF]]
theorem text_pair : textP pairL = tx1 := by decide +kernel
theorem text_list2 : textP list2 = tx2 := by decide +kernel
def px0 : List UInt8 := [99, 108, 105, 101, 110, 116, 10, 114, 101, 97, 100, 32, 51]
def px1 : List UInt8 := [99, 108, 105, 101, 110, 116, 10, 111, 112, 32, 49, 32, 51, 32, 45, 10]
def px2 : List UInt8 := [114, 101, 97, 100, 32, 51, 10]
def px3 : List UInt8 := [99, 108, 105, 101, 110, 116, 10, 114, 101, 97, 100, 32, 48, 51, 10]
theorem parse_by {s : List UInt8} {x : List (List POp) × Nat × Int} (h : parseR (splitL s 10) 0 [] = x) : parseP s [] 1 = x := by
  rw [← h]
  exact (parse_same s.length s [] 0 (Nat.le_refl _) rfl).symm
theorem parse_px0 : parseP px0 [] 1 = ([], 2, 5) := parse_by (by decide +kernel)
theorem parse_px1 : parseP px1 [] 1 = ([], 2, 5) := parse_by (by decide +kernel)
theorem parse_px2 : parseP px2 [] 1 = ([], 1, 5) := parse_by (by decide +kernel)
theorem parse_px3 : parseP px3 [] 1 = ([], 2, 5) := parse_by (by decide +kernel)
def okB (o : POp) : Bool := decide (0 ≤ o.kind) && decide (o.kind ≤ 255) && decide (-9223372036854775808 ≤ o.index) && decide (o.index ≤ 9223372036854775807)
theorem okL_of {l : List (List POp)} (h : l.all (fun p => p.all okB) = true) : OkL l := fun p hp o ho => by
  have := List.all_eq_true.1 (List.all_eq_true.1 h p hp) o ho
  simp only [okB, Bool.and_eq_true, decide_eq_true_eq] at this
  exact ⟨⟨this.1.1.1, this.1.1.2⟩, this.1.2, this.2⟩
def trip : List (List POp) := pairL ++ [[⟨2, 1, List.replicate 32 0⟩]]
theorem tou_trip : touL 4 trip.flatten = [1, 3] := by decide +kernel
theorem tou_pair : touL 2 pairL.flatten = [] := by decide +kernel
end Go.Proofs.YtmojbghcngdkpaaGreatDoor

namespace Go.Proofs.YtmojbghcngdkpaaGreatDoor
open Go.Eng Go.Plain
set_option maxHeartbeats 4000000
set_option maxRecDepth 20000
attribute [local irreducible] WC RegS RegD SeqQ BlkQ ScoQ RegK CutK Sat SatN FnIs LoopQ StepIs OpIs
theorem pair_own : FnIs Tryz.prog 79 [] [] (.own 64 0 2 1 none) [(64, .ds 77 1 true encPV pairV)] := by
  refine fnIs_of tab_ok Tryz.func79 rfl rfl rfl ?_
  refine sR ?_
  refine rC rfl ik0 ?_
  refine nR ?_
  refine rQ rfl (build_struct tab_ok rfl rfl rfl rfl) ?_
  refine rQ rfl (StepIs.frozen (build_slice (s := 1) tab_ok rfl rfl rfl rfl rfl rfl rfl rfl) (Frz.lits2 (enc := encU8) (0 : Int) (255 : Int) rfl rfl rfl rfl)) ?_
  refine rQ rfl (build_struct tab_ok rfl rfl rfl rfl) ?_
  refine rQ rfl (StepIs.frozen (build_slice (s := 3) tab_ok rfl rfl rfl rfl rfl rfl rfl rfl) (Frz.lits2 (enc := encV) vA vB rfl rfl rfl rfl)) ?_
  refine rQ rfl (build_struct tab_ok rfl rfl rfl rfl) ?_
  refine rQ rfl (StepIs.frozen (build_slice (s := 3) tab_ok rfl rfl rfl rfl rfl rfl rfl rfl) (Frz.lits1 (enc := encV) vC rfl rfl)) ?_
  refine reg_new (build_slice (s := 1) tab_ok rfl rfl rfl rfl rfl rfl rfl rfl) rfl ?_
  refine rC rfl ik0 ?_
  refine nS ?_
  refine wc_ret ?_
  exact ⟨trivial, [(64, some _)], .of rfl rfl rfl rfl rfl ⟨⟨_, rfl, AVLe.of_eq rfl⟩, rfl, trivial⟩ ⟨⟨rfl, rfl, _, rfl, RowLe.lits_ds (xs := pairV) (enc := encPV) (fun _ => rfl) rfl⟩, trivial⟩⟩
abbrev vW : Bool × POp := (false, ⟨2, 1, List.replicate 32 0⟩)
abbrev vW1 : List (Bool × POp) := [vW]
theorem touched_h : FnIs Tryz.prog 43 [.own 0 0 (pairV.length + 1) 1 none, .int .i64 4] [(0, .ds 77 1 false encPV (pairV ++ [vW1]))] (.d (.arx 1 i6 [1, 3])) [] := by
  have h := touched_is trip 4 (by decide) (by decide)
  rw [tou_trip] at h
  refine FnIs.freeze (avs' := [.d (.arr 1 encPV (pairV ++ [vW1])), .int .i64 4]) (h0' := []) 0 (.ds 77 1 false encPV (pairV ++ [vW1])) rfl ⟨⟨_, rfl, Frz.own rfl⟩, ⟨_, rfl, .refl _⟩, trivial⟩ trivial rfl ?_
  refine FnIs.args_le (avs' := [.d (encPL trip), .int .i64 4]) ⟨⟨AVLe.d (encPLV_le rfl ?_) rfl, fun _ _ => trivial⟩, ⟨AVLe.of_eq rfl, fun _ _ => trivial⟩, trivial⟩ h
  intro q hq x hx
  simp only [pairV, List.cons_append, List.nil_append, List.mem_cons, List.not_mem_nil, or_false] at hq
  rcases hq with rfl | rfl | rfl <;> simp only [List.mem_cons, List.not_mem_nil, or_false] at hx
  · rcases hx with rfl | rfl
    · exact fun _ => rfl
    · exact fun h => by cases h
  · subst hx; exact fun _ => rfl
  · subst hx; exact fun h => by cases h
theorem op_dle (k i : Int) : DLe (.cons (.sc (.int .u8 k)) (.cons (.sc (.int .i64 i)) (.cons (.sc nil_) .nil))) (encPOp ⟨k, i, []⟩) := fun w X cs h => encV_le (x := (true, ⟨k, i, []⟩)) (fun _ => rfl) h
theorem list2_dle : DLe (.arr 1 encPV list2V) (encPL list2) := encPLV_le rfl (by
  intro q hq x hx
  simp only [List.mem_cons, List.not_mem_nil, or_false] at hq
  subst hq
  simp only [List.mem_cons, List.not_mem_nil, or_false] at hx
  rcases hx with rfl | rfl | rfl
  · exact fun _ => rfl
  · exact fun _ => rfl
  · exact fun h => by cases h)
theorem parse_px {s : List UInt8} {n : Nat} (hs : s.length ≤ 1048576) (h : parseP s [] 1 = ([], n, 5)) : FnIs Tryz.prog 47 [.d (strD s)] [] (parR [] n 5) [] := by
  have := parse_is s hs
  rwa [h] at this
theorem lives_is : FnIs Tryz.prog 35 [] [] (.bool true) [] := by
  have htp := text_is pairL (bd_chk (by decide)) (okL_of (by decide))
  have htl := text_is list2 (bd_chk (by decide)) (okL_of (by decide))
  rw [show chkP pairL = 0 by decide, text_pair, if_pos rfl] at htp
  rw [show chkP list2 = 0 by decide, text_list2, if_pos rfl] at htl
  have e1 : (!decide (tx1 = tx1)) = false := by rw [decide_eq_true rfl]; rfl
  have e2 : (!decide (tx2 = tx2)) = false := by rw [decide_eq_true rfl]; rfl
  have hb1 := bad_is ⟨1, 3, []⟩ 4
  have hb2 := bad_is ⟨1, 4, []⟩ 4
  have hb3 := bad_is ⟨2, 0, List.replicate 31 0⟩ 4
  have hb4 := bad_is ⟨3, -1, []⟩ 4
  have hb5 := bad_is ⟨0, 0, []⟩ 4
  rw [show badO ⟨1, 3, []⟩ 4 = false by decide] at hb1
  rw [show badO ⟨1, 4, []⟩ 4 = true by decide] at hb2
  rw [show badO ⟨2, 0, List.replicate 31 0⟩ 4 = true by decide] at hb3
  rw [show badO ⟨3, -1, []⟩ 4 = false by decide] at hb4
  rw [show badO ⟨0, 0, []⟩ 4 = true by decide] at hb5
  have hcount := count_is pairL (by decide) (by decide)
  rw [show cK 1 pairL.flatten = 1 by decide, show cK 2 pairL.flatten = 1 by decide, show cK 3 pairL.flatten = 1 by decide, show cO pairL.flatten = 0 by decide] at hcount
  have htou := touched_is pairL 2 (by decide) (by decide)
  rw [tou_pair] at htou
  have h13a : ([1, 3] : List Int)[((0 : Int)).toNat]? = some 1 := rfl
  have h13b : ([1, 3] : List Int)[((1 : Int)).toNat]? = some 3 := rfl
  refine fnIs_of tab_ok Tryz.func35 rfl rfl rfl ?_
  refine sR ?_
  refine rC rfl ik0 ?_
  refine nR ?_
  refine rQ rfl (call_r pair_is rfl rfl arg_nil (.inl rfl) (fun _ => rfl)) ?_
  refine rQ rfl (call_r htp rfl rfl (arg_e arg_nil) (.inl rfl) (fun _ => rfl)) ?_
  iterate 5 refine rC rfl ik0 ?_
  refine nR ?_
  iterate 2 refine rQ rfl (build_struct tab_ok rfl rfl rfl rfl) ?_
  refine rQ rfl (StepIs.frozen (build_slice (s := 1) tab_ok rfl rfl rfl rfl rfl rfl rfl rfl) (Frz.lits1 (enc := encU8) (10 : Int) rfl rfl)) ?_
  refine rQ rfl (build_struct tab_ok rfl rfl rfl rfl) ?_
  refine rQ rfl (StepIs.frozen (build_slice (s := 3) tab_ok rfl rfl rfl rfl rfl rfl rfl rfl) (Frz.litsN (enc := encV) [vD, vE, vF] rfl (fun x _ => encV_size x))) ?_
  refine rQ rfl (StepIs.frozen (build_slice (s := 1) tab_ok rfl rfl rfl rfl rfl rfl rfl rfl) (Frz.lits1 (enc := encPV) [vD, vE, vF] rfl rfl)) ?_
  refine rQ rfl (call_r htl rfl rfl (arg_d rfl trivial list2_dle arg_nil) (.inl rfl) (fun _ => rfl)) ?_
  iterate 5 refine rC rfl ik0 ?_
  refine nS ?_
  refine wc_seq ?_
  refine sR ?_
  iterate 3 refine rC rfl ik0 ?_
  refine reg_on rfl rfl rfl ?_
  refine rC rfl ik0 ?_
  refine reg_on rfl rfl rfl ?_
  refine rC rfl ik0 ?_
  refine rQ rfl (pick_F tab_ok rfl rfl rfl) ?_
  refine rC rfl ik0 ?_
  refine reg_on rfl rfl rfl ?_
  refine rC rfl ik0 ?_
  refine reg_on rfl rfl rfl ?_
  refine rQ rfl (neq_s (a := tx1) (b := tx1) tab_ok rfl rfl rfl) ?_
  refine rQ rfl (pick_F tab_ok rfl rfl rfl) ?_
  refine rC rfl ik0 ?_
  refine reg_on rfl rfl rfl ?_
  refine rC rfl ik0 ?_
  refine reg_on rfl rfl rfl ?_
  refine rQ rfl (neq_s (a := tx2) (b := tx2) tab_ok rfl rfl rfl) ?_
  refine rQ rfl (pick_F tab_ok rfl rfl rfl) ?_
  refine nS ?_
  refine wc_false rfl rfl ?_
  refine wc_skip ?_
  refine seq_n ?_
  refine wc_seq ?_
  refine sR ?_
  refine rQ rfl (build_struct tab_ok rfl rfl rfl rfl) ?_
  refine rQ rfl (call_r hb1 rfl rfl (arg_d rfl trivial (op_dle 1 3) (arg_e arg_nil)) (.inl rfl) (fun _ => rfl)) ?_
  refine rC rfl ik0 ?_
  refine reg_on rfl rfl rfl ?_
  refine rQ rfl (build_struct tab_ok rfl rfl rfl rfl) ?_
  refine reg_on rfl rfl rfl ?_
  refine rQ rfl (call_r hb2 rfl rfl (arg_d rfl trivial (op_dle 1 4) (arg_e arg_nil)) (.inl rfl) (fun _ => rfl)) ?_
  refine reg_on rfl rfl rfl ?_
  refine rC rfl ik0 ?_
  refine rQ rfl (pick_F tab_ok rfl rfl rfl) ?_
  refine rC rfl ik0 ?_
  refine reg_on rfl rfl rfl ?_
  refine rQ rfl (StepIs.frozen (make_full (enc := encU8) (s := 1) (N := 31) tab_ok (0 : Int) rfl rfl rfl rfl rfl rfl rfl (by decide) rfl) (Frz.own rfl)) ?_
  refine reg_on rfl rfl rfl ?_
  refine rQ rfl (build_struct tab_ok rfl rfl rfl rfl) ?_
  refine reg_on rfl rfl rfl ?_
  refine rQ rfl (call_r hb3 rfl rfl (arg_e (arg_e arg_nil)) (.inl rfl) (fun _ => rfl)) ?_
  refine reg_on rfl rfl rfl ?_
  refine rC rfl ik0 ?_
  refine rQ rfl (pick_F tab_ok rfl rfl rfl) ?_
  refine rC rfl ik0 ?_
  refine reg_on rfl rfl rfl ?_
  refine rQ rfl (build_struct tab_ok rfl rfl rfl rfl) ?_
  refine reg_on rfl rfl rfl ?_
  refine rQ rfl (call_r hb4 rfl rfl (arg_d rfl trivial (op_dle 3 (-1)) (arg_e arg_nil)) (.inl rfl) (fun _ => rfl)) ?_
  refine rQ rfl (pick_F tab_ok rfl rfl rfl) ?_
  refine rC rfl ik0 ?_
  refine reg_on rfl rfl rfl ?_
  refine rQ rfl (build_struct tab_ok rfl rfl rfl rfl) ?_
  refine reg_on rfl rfl rfl ?_
  refine rQ rfl (call_r hb5 rfl rfl (arg_d rfl trivial (op_dle 0 0) (arg_e arg_nil)) (.inl rfl) (fun _ => rfl)) ?_
  refine reg_on rfl rfl rfl ?_
  refine rC rfl ik0 ?_
  refine rQ rfl (pick_F tab_ok rfl rfl rfl) ?_
  refine nS ?_
  refine wc_false rfl rfl ?_
  refine wc_skip ?_
  refine seq_n ?_
  refine wc_seq ?_
  refine sR ?_
  refine rQ rfl (StepIs.frozen (build_slice (s := 1) tab_ok rfl rfl rfl rfl rfl rfl rfl rfl) (Frz.litsN (enc := strD) [px0, px1, px2, px3] rfl (fun _ _ => rfl))) ?_
  refine rQ rfl (len_arr tab_ok rfl rfl) ?_
  refine rC rfl ik0 ?_
  refine nS ?_
  refine wc_block ?_
  refine wc_inv (fun i : Nat => ⟨[(68, .int .i64 i), (67, .int .i64 4), (66, .d (.arr 1 strD [px0, px1, px2, px3]))], [], 72, Tryz.f35.ntmps, 64⟩) (fun i => i ≤ 4) (fun i => 4 - i) 0 [] (Nat.zero_le _)
    (.of rfl rfl rfl rfl rfl ⟨⟨_, rfl, .refl _⟩, rfl, ⟨_, rfl, .refl _⟩, rfl, ⟨_, rfl, .refl _⟩, rfl, trivial⟩ trivial) ?_
  intro i hi
  clear htp htl e1 e2 hb1 hb2 hb3 hb4 hb5
  match i, hi with
  | 0, _ =>
    have hgx : [px0, px1, px2, px3][(((0 : Nat) : Int)).toNat]? = some px0 := rfl
    have hpx := parse_px (by decide) parse_px0
    refine wc_of ?_
    refine sR ?_
    refine rC rfl ik0 ?_
    refine nS ?_
    refine wc_seq ?_
    refine wc_true rfl rfl ?_
    refine wc_skip ?_
    refine seq_n ?_
    refine wc_seq ?_
    refine wc_block ?_
    refine sR ?_
    refine rC rfl ik0 ?_
    refine rQ rfl (index_arr tab_ok rfl rfl rfl rfl rfl (by omega) hgx) ?_
    refine rQ rfl (load_i tab_ok rfl rfl) ?_
    iterate 2 refine rC rfl ik0 ?_
    refine nR ?_
    refine rC rfl ik0 ?_
    refine rQ rfl (call_r hpx rfl rfl (arg_e arg_nil) (.inl rfl) (fun _ => rfl)) ?_
    iterate 7 refine rC rfl ik0 ?_
    refine nR ?_
    iterate 3 refine rC rfl ik0 ?_
    refine reg_on rfl rfl rfl ?_
    refine rC rfl ik0 ?_
    refine reg_on rfl rfl rfl ?_
    refine rQ rfl (build_arr tab_ok rfl rfl rfl rfl rfl) ?_
    refine reg_on rfl rfl rfl ?_
    refine rC rfl ik0 ?_
    refine reg_on rfl rfl rfl ?_
    refine rQ rfl (step_C tab_ok (fun K hk => ⟨by decide, by decide, _, rfl, hk⟩)) ?_
    refine reg_on rfl rfl rfl ?_
    refine rC rfl ik0 ?_
    refine rQ rfl (pick_F tab_ok rfl rfl rfl) ?_
    refine rC rfl ik0 ?_
    refine reg_on rfl rfl rfl ?_
    refine rC rfl ik0 ?_
    refine reg_on rfl rfl rfl ?_
    refine rQ rfl (len_arx tab_ok rfl rfl) ?_
    refine reg_on rfl rfl rfl ?_
    refine rC rfl ik0 ?_
    refine rQ rfl (pick_F tab_ok rfl rfl rfl) ?_
    refine nS ?_
    refine wc_false rfl rfl ?_
    refine wc_skip ?_
    refine blk_n ?_
    refine seq_n ?_
    refine wc_region ?_
    refine rQ rfl (add_int tab_ok rfl rfl (wrap_i64 (by omega) (by omega))) ?_
    refine rC rfl ik0 ?_
    refine reg_nil ?_
    exact loop_n 1 [] (by decide) (by decide) (.of rfl rfl rfl rfl rfl ⟨⟨_, rfl, .refl _⟩, rfl, ⟨_, rfl, .refl _⟩, rfl, ⟨_, rfl, .refl _⟩, rfl, trivial⟩ trivial)
  | 1, _ =>
    have hgx : [px0, px1, px2, px3][(((1 : Nat) : Int)).toNat]? = some px1 := rfl
    have hpx := parse_px (by decide) parse_px1
    refine wc_of ?_
    refine sR ?_
    refine rC rfl ik0 ?_
    refine nS ?_
    refine wc_seq ?_
    refine wc_true rfl rfl ?_
    refine wc_skip ?_
    refine seq_n ?_
    refine wc_seq ?_
    refine wc_block ?_
    refine sR ?_
    refine rC rfl ik0 ?_
    refine rQ rfl (index_arr tab_ok rfl rfl rfl rfl rfl (by omega) hgx) ?_
    refine rQ rfl (load_i tab_ok rfl rfl) ?_
    iterate 2 refine rC rfl ik0 ?_
    refine nR ?_
    refine rC rfl ik0 ?_
    refine rQ rfl (call_r hpx rfl rfl (arg_e arg_nil) (.inl rfl) (fun _ => rfl)) ?_
    iterate 7 refine rC rfl ik0 ?_
    refine nR ?_
    iterate 3 refine rC rfl ik0 ?_
    refine reg_on rfl rfl rfl ?_
    refine rC rfl ik0 ?_
    refine reg_on rfl rfl rfl ?_
    refine rQ rfl (build_arr tab_ok rfl rfl rfl rfl rfl) ?_
    refine reg_on rfl rfl rfl ?_
    refine rC rfl ik0 ?_
    refine reg_on rfl rfl rfl ?_
    refine rQ rfl (step_C tab_ok (fun K hk => ⟨by decide, by decide, _, rfl, hk⟩)) ?_
    refine reg_on rfl rfl rfl ?_
    refine rC rfl ik0 ?_
    refine rQ rfl (pick_F tab_ok rfl rfl rfl) ?_
    refine rC rfl ik0 ?_
    refine reg_on rfl rfl rfl ?_
    refine rC rfl ik0 ?_
    refine reg_on rfl rfl rfl ?_
    refine rQ rfl (len_arx tab_ok rfl rfl) ?_
    refine reg_on rfl rfl rfl ?_
    refine rC rfl ik0 ?_
    refine rQ rfl (pick_F tab_ok rfl rfl rfl) ?_
    refine nS ?_
    refine wc_false rfl rfl ?_
    refine wc_skip ?_
    refine blk_n ?_
    refine seq_n ?_
    refine wc_region ?_
    refine rQ rfl (add_int tab_ok rfl rfl (wrap_i64 (by omega) (by omega))) ?_
    refine rC rfl ik0 ?_
    refine reg_nil ?_
    exact loop_n 2 [] (by decide) (by decide) (.of rfl rfl rfl rfl rfl ⟨⟨_, rfl, .refl _⟩, rfl, ⟨_, rfl, .refl _⟩, rfl, ⟨_, rfl, .refl _⟩, rfl, trivial⟩ trivial)
  | 2, _ =>
    have hgx : [px0, px1, px2, px3][(((2 : Nat) : Int)).toNat]? = some px2 := rfl
    have hpx := parse_px (by decide) parse_px2
    refine wc_of ?_
    refine sR ?_
    refine rC rfl ik0 ?_
    refine nS ?_
    refine wc_seq ?_
    refine wc_true rfl rfl ?_
    refine wc_skip ?_
    refine seq_n ?_
    refine wc_seq ?_
    refine wc_block ?_
    refine sR ?_
    refine rC rfl ik0 ?_
    refine rQ rfl (index_arr tab_ok rfl rfl rfl rfl rfl (by omega) hgx) ?_
    refine rQ rfl (load_i tab_ok rfl rfl) ?_
    iterate 2 refine rC rfl ik0 ?_
    refine nR ?_
    refine rC rfl ik0 ?_
    refine rQ rfl (call_r hpx rfl rfl (arg_e arg_nil) (.inl rfl) (fun _ => rfl)) ?_
    iterate 7 refine rC rfl ik0 ?_
    refine nR ?_
    iterate 3 refine rC rfl ik0 ?_
    refine reg_on rfl rfl rfl ?_
    refine rC rfl ik0 ?_
    refine reg_on rfl rfl rfl ?_
    refine rQ rfl (build_arr tab_ok rfl rfl rfl rfl rfl) ?_
    refine reg_on rfl rfl rfl ?_
    refine rC rfl ik0 ?_
    refine reg_on rfl rfl rfl ?_
    refine rQ rfl (step_C tab_ok (fun K hk => ⟨by decide, by decide, _, rfl, hk⟩)) ?_
    refine reg_on rfl rfl rfl ?_
    refine rC rfl ik0 ?_
    refine rQ rfl (pick_F tab_ok rfl rfl rfl) ?_
    refine rC rfl ik0 ?_
    refine reg_on rfl rfl rfl ?_
    refine rC rfl ik0 ?_
    refine reg_on rfl rfl rfl ?_
    refine rQ rfl (len_arx tab_ok rfl rfl) ?_
    refine reg_on rfl rfl rfl ?_
    refine rC rfl ik0 ?_
    refine rQ rfl (pick_F tab_ok rfl rfl rfl) ?_
    refine nS ?_
    refine wc_false rfl rfl ?_
    refine wc_skip ?_
    refine blk_n ?_
    refine seq_n ?_
    refine wc_region ?_
    refine rQ rfl (add_int tab_ok rfl rfl (wrap_i64 (by omega) (by omega))) ?_
    refine rC rfl ik0 ?_
    refine reg_nil ?_
    exact loop_n 3 [] (by decide) (by decide) (.of rfl rfl rfl rfl rfl ⟨⟨_, rfl, .refl _⟩, rfl, ⟨_, rfl, .refl _⟩, rfl, ⟨_, rfl, .refl _⟩, rfl, trivial⟩ trivial)
  | 3, _ =>
    have hgx : [px0, px1, px2, px3][(((3 : Nat) : Int)).toNat]? = some px3 := rfl
    have hpx := parse_px (by decide) parse_px3
    refine wc_of ?_
    refine sR ?_
    refine rC rfl ik0 ?_
    refine nS ?_
    refine wc_seq ?_
    refine wc_true rfl rfl ?_
    refine wc_skip ?_
    refine seq_n ?_
    refine wc_seq ?_
    refine wc_block ?_
    refine sR ?_
    refine rC rfl ik0 ?_
    refine rQ rfl (index_arr tab_ok rfl rfl rfl rfl rfl (by omega) hgx) ?_
    refine rQ rfl (load_i tab_ok rfl rfl) ?_
    iterate 2 refine rC rfl ik0 ?_
    refine nR ?_
    refine rC rfl ik0 ?_
    refine rQ rfl (call_r hpx rfl rfl (arg_e arg_nil) (.inl rfl) (fun _ => rfl)) ?_
    iterate 7 refine rC rfl ik0 ?_
    refine nR ?_
    iterate 3 refine rC rfl ik0 ?_
    refine reg_on rfl rfl rfl ?_
    refine rC rfl ik0 ?_
    refine reg_on rfl rfl rfl ?_
    refine rQ rfl (build_arr tab_ok rfl rfl rfl rfl rfl) ?_
    refine reg_on rfl rfl rfl ?_
    refine rC rfl ik0 ?_
    refine reg_on rfl rfl rfl ?_
    refine rQ rfl (step_C tab_ok (fun K hk => ⟨by decide, by decide, _, rfl, hk⟩)) ?_
    refine reg_on rfl rfl rfl ?_
    refine rC rfl ik0 ?_
    refine rQ rfl (pick_F tab_ok rfl rfl rfl) ?_
    refine rC rfl ik0 ?_
    refine reg_on rfl rfl rfl ?_
    refine rC rfl ik0 ?_
    refine reg_on rfl rfl rfl ?_
    refine rQ rfl (len_arx tab_ok rfl rfl) ?_
    refine reg_on rfl rfl rfl ?_
    refine rC rfl ik0 ?_
    refine rQ rfl (pick_F tab_ok rfl rfl rfl) ?_
    refine nS ?_
    refine wc_false rfl rfl ?_
    refine wc_skip ?_
    refine blk_n ?_
    refine seq_n ?_
    refine wc_region ?_
    refine rQ rfl (add_int tab_ok rfl rfl (wrap_i64 (by omega) (by omega))) ?_
    refine rC rfl ik0 ?_
    refine reg_nil ?_
    exact loop_n 4 [] (by decide) (by decide) (.of rfl rfl rfl rfl rfl ⟨⟨_, rfl, .refl _⟩, rfl, ⟨_, rfl, .refl _⟩, rfl, ⟨_, rfl, .refl _⟩, rfl, trivial⟩ trivial)
  | 4, _ =>
    refine wc_of ?_
    refine sR ?_
    refine rC rfl ik0 ?_
    refine nS ?_
    refine wc_seq ?_
    refine wc_false rfl rfl ?_
    refine wc_exit ?_
    refine seq_x ?_
    refine loop_x ?_
    refine blk_x ?_
    refine seq_n ?_
    refine sR ?_
    refine rQ rfl (call_r pair_is rfl rfl arg_nil (.inl rfl) (fun _ => rfl)) ?_
    refine rQ rfl (call_r hcount rfl rfl (arg_e arg_nil) (.inl rfl) (fun _ => rfl)) ?_
    iterate 9 refine rC rfl ik0 ?_
    refine nS ?_
    refine wc_seq ?_
    refine wc_draw (by kernel_rfl) ?_
    refine dreg_w [] [] rfl (call_new pair_own rfl rfl arg_nil (.inl rfl) rfl rfl) ?_
    refine dreg_q [] [] rfl (StepIs.frozen (make_full (enc := encU8) (s := 1) (N := 32) tab_ok (0 : Int) rfl rfl rfl rfl rfl rfl rfl (by decide) rfl) (Frz.own rfl)) ?_
    refine dreg_q [102] [] rfl (build_struct tab_ok rfl rfl rfl rfl) ?_
    refine dreg_q [103] [] rfl (StepIs.frozen (build_slice (s := 3) tab_ok rfl rfl rfl rfl rfl rfl rfl rfl) (Frz.lits1 (enc := encV) vW rfl rfl)) ?_
    refine dreg_w [104] [] rfl (build_slice (s := 1) tab_ok rfl rfl rfl rfl rfl rfl rfl rfl) ?_
    refine dreg_w2 [101, 105] [168, 200] rfl (append_one (xs := pairV) (s := 1) (enc := encPV) tab_ok vW1 rfl rfl rfl rfl rfl rfl rfl rfl rfl (by decide) rfl) ?_
    refine dreg_w [106] [208] rfl (call_h [(0, some _)] touched_h rfl rfl rfl (arg_give rfl rfl (arg_e arg_nil)) ⟨⟨rfl, rfl, _, _, rfl, rfl, .refl _⟩, trivial⟩ rfl rfl (.inl rfl) rfl rfl) ?_
    refine dreg_q [107] [] rfl (step_C tab_ok (fun K hk => hk)) ?_
    refine dreg_end (by kernel_rfl) ?_
    refine seq_n ?_
    refine sR ?_
    iterate 3 refine rC rfl ik0 ?_
    refine reg_on rfl rfl rfl ?_
    refine rC rfl ik0 ?_
    refine reg_on rfl rfl rfl ?_
    refine rC rfl ik0 ?_
    refine rQ rfl (pick_T tab_ok rfl rfl rfl) ?_
    refine rC rfl ik0 ?_
    refine reg_on rfl rfl rfl ?_
    refine rC rfl ik0 ?_
    refine reg_on rfl rfl rfl ?_
    refine rC rfl ik0 ?_
    refine rQ rfl (pick_T tab_ok rfl rfl rfl) ?_
    refine rC rfl ik0 ?_
    refine reg_on rfl rfl rfl ?_
    refine rC rfl ik0 ?_
    refine reg_on rfl rfl rfl ?_
    refine rC rfl ik0 ?_
    refine rQ rfl (pick_T tab_ok rfl rfl rfl) ?_
    refine rC rfl ik0 ?_
    refine reg_on rfl rfl rfl ?_
    refine rC rfl ik0 ?_
    refine reg_on rfl rfl rfl ?_
    refine rQ rfl (len_arx tab_ok rfl rfl) ?_
    refine reg_on rfl rfl rfl ?_
    refine rC rfl ik0 ?_
    refine rQ rfl (pick_T tab_ok rfl rfl rfl) ?_
    refine rC rfl ik0 ?_
    refine reg_on rfl rfl rfl ?_
    refine rC rfl ik0 ?_
    refine reg_on rfl rfl rfl ?_
    refine rQ rfl (index_arx tab_ok rfl rfl rfl rfl rfl (by decide) h13a) ?_
    refine reg_on rfl rfl rfl ?_
    refine rQ rfl (load_i tab_ok rfl rfl) ?_
    refine reg_on rfl rfl rfl ?_
    refine rC rfl ik0 ?_
    refine rQ rfl (pick_T tab_ok rfl rfl rfl) ?_
    refine rC rfl ik0 ?_
    refine reg_on rfl rfl rfl ?_
    refine rC rfl ik0 ?_
    refine reg_on rfl rfl rfl ?_
    refine rQ rfl (index_arx tab_ok rfl rfl rfl rfl rfl (by decide) h13b) ?_
    refine reg_on rfl rfl rfl ?_
    refine rQ rfl (load_i tab_ok rfl rfl) ?_
    refine reg_on rfl rfl rfl ?_
    refine rC rfl ik0 ?_
    refine rQ rfl (pick_T tab_ok rfl rfl rfl) ?_
    refine rC rfl ik0 ?_
    refine reg_on rfl rfl rfl ?_
    refine rQ rfl (call_r pair_is rfl rfl arg_nil (.inl rfl) (fun _ => rfl)) ?_
    refine reg_on rfl rfl rfl ?_
    refine rQ rfl (call_r htou rfl rfl (arg_e (arg_e arg_nil)) (.inl rfl) (fun _ => rfl)) ?_
    refine reg_on rfl rfl rfl ?_
    refine rQ rfl (len_arx tab_ok rfl rfl) ?_
    refine reg_on rfl rfl rfl ?_
    refine rC rfl ik0 ?_
    refine rQ rfl (pick_T tab_ok rfl rfl rfl) ?_
    refine rC rfl ik0 ?_
    refine nS ?_
    refine wc_ret ?_
    exact ⟨trivial, [], .of rfl rfl rfl rfl rfl ⟨⟨_, rfl, AVLe.of_eq rfl⟩, rfl, trivial⟩ trivial⟩
  | (n + 5), h => exact absurd h (by omega)
end Go.Proofs.YtmojbghcngdkpaaGreatDoor

namespace Go.Proofs.YtmojbghcngdkpaaGreatDoor
open Go.Eng Go.Plain
set_option maxHeartbeats 4000000
set_option maxRecDepth 20000
set_option linter.unusedVariables false
attribute [local irreducible] WC RegS RegD SeqQ BlkQ ScoQ RegK CutK Sat SatN FnIs LoopQ StepIs OpIs
theorem xl_dle (l : List (List POp)) : DLe (.arx 1 encXP l) (encPL l) := fun _ _ cs h => Enc.arx_arr (fun _ c hc => Enc.arx_arr (fun _ _ h => h) c hc) cs h
def one (b : Bool) : Int := if b = true then 1 else 0
theorem text_le {l : List (List POp)} {N D M : Nat} (hN : l.length ≤ M) (h : ∀ p ∈ l, p.length ≤ N ∧ ∀ o ∈ p, o.Ok ∧ o.data.length ≤ D) : (textP l).length ≤ (7 + (51 + 2 * D) * N) * M := Nat.le_trans (text_len l h) (Nat.mul_le_mul_left _ hN)
theorem small_text {l : List (List POp)} (hok : OkL l) (h : SmallL l) : (textP l).length ≤ 151356 :=
  text_le (M := 12) (N := 66) (D := 70) h.1 fun p hp => ⟨(h.2.2 p hp).1, fun o ho => ⟨hok p hp o ho, (h.2.2 p hp).2 o ho⟩⟩
theorem small_rtext {l : List (List POp)} (hok : OkL l) (h : SmallL l) : FnIs Tryz.prog 39 [.d (encPL l)] [] (.d (strD (textP l))) [] :=
  rtext_is l hok (by have := h.1; omega) (fun p hp => ⟨by have := (h.2.2 p hp).1; omega, fun o ho => by have := (h.2.2 p hp).2 o ho; omega⟩) (by have := small_text hok h; omega)
theorem law_back (l : List (List POp)) (hok : OkL l) : FnIs Tryz.prog 12 [.d (encPL l)] [] (.bool true) [] := by
  have hsm := small_is l
  have hck := rcheck_is l
  refine fnIs_of tab_ok Tryz.func12 rfl rfl rfl ?_
  cases qa : smallB l with
  | false =>
    rw [qa] at hsm
    refine sR ?_
    refine rC rfl ik0 ?_
    refine nS ?_
    refine wc_seq ?_
    refine sR ?_
    refine rC rfl ik0 ?_
    refine rQ rfl (call_r hsm rfl rfl (arg_e arg_nil) (.inl rfl) (fun _ => rfl)) ?_
    iterate 2 refine rC rfl ik0 ?_
    iterate 3 refine reg_skip rfl rfl rfl rfl rfl ?_
    refine rQ rfl (pick_T tab_ok rfl rfl rfl) ?_
    refine nS ?_
    refine wc_true rfl rfl ?_
    refine sR ?_
    refine rQ rfl (call_r lives_is rfl rfl arg_nil (.inl rfl) (fun _ => rfl)) ?_
    refine rC rfl ik0 ?_
    refine nS ?_
    refine wc_ret ?_
    refine seq_r ?_
    exact ⟨trivial, [], .of rfl rfl rfl rfl rfl ⟨⟨_, rfl, AVLe.of_eq rfl⟩, rfl, trivial⟩ trivial⟩
  | true =>
    rw [qa] at hsm
    have hS := (small_iff l).1 qa
    rcases chkP_cases l with hc | hc
    · rw [hc] at hck
      have hTl := small_text hok hS
      have hrt := small_rtext hok hS
      have hp := parse_is (textP l) (by omega)
      rw [parse_back hok hc] at hp
      have hs := rsame_is l l (by have := hS.1; omega) (fun p hp => by have := (hS.2.2 p hp).1; omega)
      rw [if_pos rfl] at hs
      generalize textP l = T at *
      clear hTl
      refine sR ?_
      refine rC rfl ik0 ?_
      refine nS ?_
      refine wc_seq ?_
      refine sR ?_
      refine rC rfl ik0 ?_
      refine rQ rfl (call_r hsm rfl rfl (arg_e arg_nil) (.inl rfl) (fun _ => rfl)) ?_
      iterate 2 refine rC rfl ik0 ?_
      refine reg_on rfl rfl rfl ?_
      refine rC rfl ik0 ?_
      refine reg_on rfl rfl rfl ?_
      refine rQ rfl (call_r hck rfl rfl (arg_e arg_nil) (.inl rfl) (fun _ => rfl)) ?_
      refine reg_on rfl rfl rfl ?_
      refine rC rfl ik0 ?_
      refine rQ rfl (pick_F tab_ok rfl rfl rfl) ?_
      refine nS ?_
      refine wc_false rfl rfl ?_
      refine wc_skip ?_
      refine seq_n ?_
      refine sR ?_
      refine rC rfl ik0 ?_
      refine rQ rfl (call_r hrt rfl rfl (arg_e arg_nil) (.inl rfl) (fun _ => rfl)) ?_
      refine rQ rfl (call_r hp rfl rfl (arg_e arg_nil) (.inl rfl) (fun _ => rfl)) ?_
      iterate 7 refine rC rfl ik0 ?_
      refine nR ?_
      iterate 3 refine rC rfl ik0 ?_
      refine reg_on rfl rfl rfl ?_
      refine rC rfl ik0 ?_
      refine reg_on rfl rfl rfl ?_
      refine rC rfl ik0 ?_
      refine rQ rfl (pick_T tab_ok rfl rfl rfl) ?_
      refine rC rfl ik0 ?_
      refine reg_on rfl rfl rfl ?_
      refine rC rfl ik0 ?_
      refine reg_on rfl rfl rfl ?_
      refine rC rfl ik0 ?_
      refine reg_on rfl rfl rfl ?_
      refine rQ rfl (call_r hs rfl rfl (arg_d rfl trivial (xl_dle _) (arg_e arg_nil)) (.inl rfl) (fun _ => rfl)) ?_
      refine reg_on rfl rfl rfl ?_
      refine rC rfl ik0 ?_
      refine rQ rfl (pick_T tab_ok rfl rfl rfl) ?_
      refine rC rfl ik0 ?_
      refine reg_on rfl rfl rfl ?_
      refine rQ rfl (call_r lives_is rfl rfl arg_nil (.inl rfl) (fun _ => rfl)) ?_
      refine rQ rfl (pick_T tab_ok rfl rfl rfl) ?_
      refine rC rfl ik0 ?_
      refine nS ?_
      refine wc_ret ?_
      exact ⟨trivial, [], .of rfl rfl rfl rfl rfl ⟨⟨_, rfl, AVLe.of_eq rfl⟩, rfl, trivial⟩ trivial⟩
    · rw [hc] at hck
      refine sR ?_
      refine rC rfl ik0 ?_
      refine nS ?_
      refine wc_seq ?_
      refine sR ?_
      refine rC rfl ik0 ?_
      refine rQ rfl (call_r hsm rfl rfl (arg_e arg_nil) (.inl rfl) (fun _ => rfl)) ?_
      iterate 2 refine rC rfl ik0 ?_
      refine reg_on rfl rfl rfl ?_
      refine rC rfl ik0 ?_
      refine reg_on rfl rfl rfl ?_
      refine rQ rfl (call_r hck rfl rfl (arg_e arg_nil) (.inl rfl) (fun _ => rfl)) ?_
      refine reg_on rfl rfl rfl ?_
      refine rC rfl ik0 ?_
      refine rQ rfl (pick_F tab_ok rfl rfl rfl) ?_
      refine nS ?_
      refine wc_true rfl rfl ?_
      refine sR ?_
      refine rQ rfl (call_r lives_is rfl rfl arg_nil (.inl rfl) (fun _ => rfl)) ?_
      refine rC rfl ik0 ?_
      refine nS ?_
      refine wc_ret ?_
      refine seq_r ?_
      exact ⟨trivial, [], .of rfl rfl rfl rfl rfl ⟨⟨_, rfl, AVLe.of_eq rfl⟩, rfl, trivial⟩ trivial⟩
end Go.Proofs.YtmojbghcngdkpaaGreatDoor

namespace Go.Proofs.YtmojbghcngdkpaaGreatDoor
open Go.Eng Go.Plain
theorem pu8_of {a : Int} (h : (Lit.int .u8 a).wf = true) : 0 ≤ a ∧ a ≤ 255 := by
  simp [Lit.wf, IntKind.min, IntKind.max, IntKind.bits, IntKind.signed] at h
  omega
theorem pi64_of {a : Int} (h : (Lit.int .i64 a).wf = true) : -9223372036854775808 ≤ a ∧ a ≤ 9223372036854775807 := by
  simp [Lit.wf, IntKind.min, IntKind.max, IntKind.bits, IntKind.signed] at h
  omega
def toB (l : List Int) : List UInt8 := l.map fun z => z.toNat.toUInt8
theorem toB_byI {l : List Int} (h : ∀ a ∈ l, (Lit.int .u8 a).wf = true) : byI (toB l) = l := by
  rw [byI, toB, List.map_map]
  have : ∀ a ∈ l, ((fun b : UInt8 => (b.toNat : Int)) ∘ fun z : Int => z.toNat.toUInt8) a = a := fun a ha => by
    obtain ⟨h1, h2⟩ := pu8_of (h a ha)
    simp only [Function.comp_apply, Nat.toUInt8_eq, UInt8.toNat_ofNat']
    omega
  rw [List.map_congr_left this, List.map_id'']
  exact fun _ => rfl
theorem opens_bytes : Opens Tryz.prog 48 1 (fun l : List UInt8 => encB l) fun _ => True :=
  Opens.map (opens_slice (P := Tryz.prog) Tryz.underlying48 (by kernel_rfl) (opens_int (P := Tryz.prog) Tryz.underlying5))
    toB (fun l h => by show D.arr 1 encU8 (byI (toB l)) = _; rw [toB_byI h.2]; rfl) (fun _ _ => trivial)
theorem opens_pop : Opens Tryz.prog 50 3 encPOp POp.Ok :=
  Opens.map (opens_struct (P := Tryz.prog) Tryz.underlying50 (by kernel_rfl) (fun _ => rfl) (opensF_cons rfl (by kernel_rfl) (opens_int (P := Tryz.prog) Tryz.underlying47) (opensF_cons rfl (by kernel_rfl) (opens_int (P := Tryz.prog) Tryz.underlying3) (opensF_cons rfl (by kernel_rfl) opens_bytes opensF_nil))))
    (fun q => ⟨q.1, q.2.1, q.2.2.1⟩) (fun _ _ => rfl) (fun _ h => ⟨pu8_of h.1, pi64_of h.2.1⟩)
theorem opens_ops : Opens Tryz.prog 77 1 encP fun l => ∀ o ∈ l, o.Ok :=
  Opens.map (opens_slice (P := Tryz.prog) Tryz.underlying77 (by kernel_rfl) opens_pop) id (fun _ _ => rfl) (fun _ h => h.2)
theorem opens_progs : Opens Tryz.prog 72 1 encPL fun l => OkL l :=
  Opens.map (opens_slice (P := Tryz.prog) Tryz.underlying72 (by kernel_rfl) opens_ops) id (fun _ _ => rfl) (fun _ h => h.2)
end Go.Proofs.YtmojbghcngdkpaaGreatDoor

namespace Go.Proofs.YtmojbghcngdkpaaGreatDoor
open Go.ChangeShapes Go.WideShapes Go.ChangeAt Go.RowKit Go.Eng
theorem own : ownKnob Tryz.prog.godebug = none := by kernel_rfl
theorem laidOut : laidOutB Tryz.prog = true := by kernel_rfl
theorem gPow : Tryz.prog.globalNamed "internal/strconv.uint64pow10" = some 3 := by kernel_rfl
theorem gSyn : Tryz.prog.globalNamed "strconv.ErrSyntax" = some 1 := by kernel_rfl
theorem gRan : Tryz.prog.globalNamed "strconv.ErrRange" = some 2 := by kernel_rfl
theorem tPow : (Tryz.prog.globals[3]?).map (·.type) = some 253 := by kernel_rfl
theorem tSyn : (Tryz.prog.globals[1]?).map (·.type) = some 122 := by kernel_rfl
theorem tRan : (Tryz.prog.globals[2]?).map (·.type) = some 122 := by kernel_rfl
theorem block_of_var {P : Program} {w : World} {n : String} {g : Nat} {cs : Array Value} (hg : P.globalNamed n = some g) (h : w.var? P n = some cs) : ∃ t fr, w.heap[g]? = some (.cells cs t fr) := by
  unfold World.var? at h
  rw [hg] at h
  simp only [Option.bind_some] at h
  split at h
  · rename_i t fr hh
    cases h
    exact ⟨_, _, hh⟩
  · cases h
theorem globs_of {W : World} (hL : laidMetH Tryz.prog Rows.programsSameRow.laid W) (hsh : W.ShapedOpen Tryz.prog) : ∀ x ∈ globs, x.2 (W.heap[x.1]?) ∧ x.1 < W.heap.size := by
  rw [MakeChecks.laidMetH_plain _ _ _ (by kernel_rfl)] at hL
  obtain ⟨ps, ⟨_, _, _, _, _, _, _, _, _, _, ⟨_, _, _, _, _, _, _, _, _, _, ⟨g3, t3, cs3, f3, p3, q3, hg3, ht3, hv3, hd3, ⟨_, _, _, _, _, _, _, _, _, _, ⟨g2, t2, cs2, f2, p2, q2, hg2, ht2, hv2, hd2, ⟨g1, t1, cs1, f1, p1, q1, hg1, ht1, hv1, hd1, _, _⟩, _⟩, _⟩, _⟩, _⟩, _⟩, _, _⟩ := hL
  obtain rfl := Option.some.inj (gPow.symm.trans hg3)
  obtain rfl := Option.some.inj (gRan.symm.trans hg2)
  obtain rfl := Option.some.inj (gSyn.symm.trans hg1)
  obtain rfl := Option.some.inj (tPow.symm.trans ht3)
  obtain rfl := Option.some.inj (tRan.symm.trans ht2)
  obtain rfl := Option.some.inj (tSyn.symm.trans ht1)
  obtain ⟨_, u2, v2, hc2, _, _⟩ := iface_of_trod Tryz.underlying122 hd2
  obtain ⟨_, u1, v1, hc1, _, _⟩ := iface_of_trod Tryz.underlying122 hd1
  have hc3 : cs3.toList = Lib.pow10Tab.map fun z => Value.int .u64 z := Lib.cells_of_tab (zs := Lib.pow10Tab) Tryz.underlying253 Tryz.underlying212 (by kernel_rfl) (by kernel_rfl) hd3
  obtain ⟨a3, b3, hb3⟩ := block_of_var gPow hv3
  obtain ⟨a2, b2, hb2⟩ := block_of_var gRan hv2
  obtain ⟨a1, b1, hb1⟩ := block_of_var gSyn hv1
  obtain ⟨cs0, hh0, hs0, hr0⟩ := hsh.1 0 #[.int .i64 0] 3 (of_decide_eq_true (by kernel_rfl)) (by kernel_rfl)
  obtain ⟨m, hm⟩ := cell_of_shapedOpen_int (g := 0) (zero := #[.int .i64 0]) (t := 3) hsh (of_decide_eq_true (by kernel_rfl)) (by kernel_rfl) rfl (by kernel_rfl) (by kernel_rfl) Tryz.underlying3
  have he0 : ∃ fr, W.heap[0]? = some (.cells #[.int .i64 m] 3 fr) := by
    have h1 : cs0[0]? = some (.int .i64 m) := by
      have := hm
      simp only [World.cell?, hh0] at this
      exact this
    have h2 : cs0 = #[.int .i64 m] := by
      apply Array.ext'
      obtain ⟨l⟩ := cs0
      have hl : l.length = 1 := by simpa using hs0
      match l, hl, h1 with
      | [x], _, h1 => simpa using h1
    exact ⟨_, by rw [hh0, h2]⟩
  obtain ⟨fr0, he0⟩ := he0
  have e1 : cs1 = #[.iface u1 v1] := Array.ext' hc1
  have e2 : cs2 = #[.iface u2 v2] := Array.ext' hc2
  have e3 : cs3 = (Lib.pow10Tab.map fun z => Value.int .u64 z).toArray := Array.ext' (by simpa using hc3)
  intro x hx
  simp only [globs, List.mem_cons, List.not_mem_nil, or_false] at hx
  rcases hx with rfl | rfl | rfl | rfl
  · exact ⟨⟨m, 3, fr0, he0⟩, (Array.getElem?_eq_some_iff.1 he0).1⟩
  · refine ⟨⟨.iface u1 v1, a1, b1, ?_, .inr ⟨u1, v1, rfl⟩⟩, (Array.getElem?_eq_some_iff.1 hb1).1⟩
    rw [hb1, e1]
  · refine ⟨⟨.iface u2 v2, a2, b2, ?_, .inr ⟨u2, v2, rfl⟩⟩, (Array.getElem?_eq_some_iff.1 hb2).1⟩
    rw [hb2, e2]
  · refine ⟨⟨a3, b3, ?_⟩, (Array.getElem?_eq_some_iff.1 hb3).1⟩
    rw [hb3, e3]
/-- The wrap with a condition on memory and the world's shape. -/
theorem handed_of {H : Type} {enc : TypeId × Value → H} {a : Assume} {C : Checked} {os : Os} {f : FuncId} {fn : Func} {s : ChangeSpec} {conds : List PathCond} {apart fresh handsOn again : Bool} {X : World → Array Value → Prop}
    (hX : ∀ (w w' : World) (args : Array Value), w.heap = w'.heap → X w args → X w' args)
    (own : ownKnob C.prog.godebug = none) (started : os.Started) (noInit : C.prog.inits.idxOf? f = none) (hfn : C.prog.funcs[f]? = some fn)
    (witness : ∃ (w : World) (tape : Tape) (i : Input), w.os = os ∧ (w.forCall tape i).Shaped C.prog ∧ i.vars = [] ∧ Input.okWide C.prog (w.forCall tape i) .any w.heap.size f i ∧
      ((s.pre enc C.prog fn conds apart (w.forCall tape i).memory i.args ∧ X (w.forCall tape i).memory i.args) ∧ sizedMet enc C.prog fn (OpenSpec.ofChange s) apart (w.forCall tape i).memory i.args) ∧ a.holds C.prog (lone (Frame.enter C.prog f i.args .normal) [] (w.forCall tape i)))
    (contract : ∀ (W : World) (base : Nat) (args : Array Value) (ds gs : List (DataW H)) (before : List MemPlace),
      (∀ (j : Nat) t v, fn.params[j]? = some t → args[j]? = some v → Value.okWide C.prog W .any base t v) →
      DataW.Whole enc C.prog fn.params.toList s.vars apart W args.toList ds gs before →
      X W args → W.ShapedOpen C.prog →
      Calls C.prog f args W fun e W' => ∃ v, e = .returned v ∧ s.post enc C.prog fn apart fresh handsOn again W args v W') :
    ReturnsInHanded a C os f .any (fun w args => (s.pre enc C.prog fn conds apart w args ∧ X w args) ∧ sizedMet enc C.prog fn (OpenSpec.ofChange s) apart w args) (s.post enc C.prog fn apart fresh handsOn again) := by
  refine returnsInHanded_of_calls own started noInit witness ?_
  intro w tape i _ hsh _ hok hpre _
  obtain ⟨_, _, _, fn', hfn', _, _, _, _, hval⟩ := hok
  have e : fn' = fn := Option.some.inj (hfn'.symm.trans hfn)
  subst e
  obtain ⟨⟨⟨ds, gs, before, hw, hc⟩, hx⟩, hz⟩ := hpre
  have hw' := DataW.Whole.of_heap (w' := w.forCall tape i) (by rfl) hw
  refine (contract (w.forCall tape i) w.heap.size i.args ds gs before hval hw' (hX _ _ _ (by rfl) hx) hsh).mono fun e W' ⟨v, he, hp⟩ => ?_
  subst he
  exact ChangeSpec.post_blind hp
end Go.Proofs.YtmojbghcngdkpaaGreatDoor

namespace Go.Proofs.YtmojbghcngdkpaaGreatDoor
open Go
theorem and2 {a b : Bool} (h : a = true) (k : b = true) : (a && b) = true := by rw [h, k]; rfl
theorem pf_maps : mapsRowed Tryz.prog = true := by kernel_rfl
theorem pf_keys : (Rows.programsSameRow.plainKeys == Tryz.prog.plainKeys) = true := by kernel_rfl
theorem pf_heard : Tryz.prog.stopsHeard = true := by kernel_rfl
theorem pf_enter : Tryz.prog.mayEnter = true := by kernel_rfl
theorem pf_lifts : (Rows.programsSameRow.lifted == Tryz.prog.liftsFinal) = true := by kernel_rfl
theorem pf_make : (Tryz.prog.make == some Rows.programsSameRow.make) = true := by kernel_rfl
end Go.Proofs.YtmojbghcngdkpaaGreatDoor
