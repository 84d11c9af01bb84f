/- Texts of the proof: P27, P28, PY, P29, P30, Eng78, P31, P32, P33, P34, PZ, P35, P36, P37, P42, Eng80, Eng81, Eng82. -/
import Derived.Test.YtmojbghcngdkpaaGreatDoorG04
import Derived.Sort.Row
import Derived.Sort.Grow

set_option linter.unusedVariables false
set_option linter.unusedSimpArgs false
set_option linter.unusedSectionVars false

namespace Go.Proofs.YtmojbghcngdkpaaGreatDoor
open Go.Eng Go.Plain
set_option maxHeartbeats 4000000
set_option maxRecDepth 20000
attribute [local irreducible] WC RegS RegD SeqQ BlkQ ScoQ RegK CutK Sat SatN FnIs LoopQ StepIs OpIs
abbrev k4 (l : List POp) : D := .cons (i6 (cK 1 l)) (.cons (i6 (cK 2 l)) (.cons (i6 (cK 3 l)) (.cons (i6 (cO l)) .nil)))
theorem kinds_is (l : List (List POp)) (hok : OkL l) (hL : l.length ≤ 1000000) (hF : l.flatten.length ≤ 1000000) : FnIs Tryz.prog 45 [.d (encPL l)] [] (.d (k4 l.flatten)) [] := by
  refine fnIs_of tab_ok Tryz.func45 rfl rfl rfl ?_;refine sR ?_;refine rN ?_;refine nR ?_;refine rN ?_;refine nQ ?_;refine sR ?_;refine rC ?_;refine nS ?_;refine wc_block ?_
  refine wc_inv (fun i : Nat => ⟨[(4, .int .i64 i), (3, .ptr 65 []), (2, .ptr 66 []), (0, .d (encPL l))], [(65, some (.box 84 (.d (k4 (l.take i).flatten)))), (66, some (.box 84 (.d (k4 []))))], 72, Tryz.f45.ntmps, 64⟩) (fun i => i ≤ l.length) (fun i => l.length - i) 0 [(65, some 72), (66, some 64)] (Nat.zero_le _)
    (.of rfl rfl rfl rfl rfl ⟨⟨_, rfl, .refl _⟩, rfl, ⟨_, rfl, .refl _⟩, rfl, ⟨_, rfl, .refl _⟩, rfl, ⟨_, rfl, .refl _⟩, rfl, trivial⟩ ⟨⟨rfl, rfl, _, rfl, .refl _⟩, ⟨rfl, rfl, _, rfl, .refl _⟩, trivial⟩) ?_
  intro i hi
  refine wc_of ?_;refine qR ?_;iterate 2 refine rC ?_
  refine rQ iE ?_;refine rC ?_;refine nS ?_
  refine wc_cond rfl (fun h3 => ?_) (fun h3 => ?_)
  · have hlt : i < l.length := by have := of_decide_eq_true h3; omega
    obtain ⟨p, hp⟩ : ∃ p, l[i]? = some p := ⟨_, List.getElem?_eq_getElem hlt⟩
    have hp' : l[((i : Int)).toNat]? = some p := by rw [Int.toNat_natCast]; exact hp
    have hpm := List.mem_of_getElem? hp
    have hfm := flat_mem_le hp
    rw [← preO_zero l i p]
    refine kS ?_;refine wc_seq ?_;refine wc_block ?_;refine sR ?_;refine rC ?_;refine nS ?_;refine wc_block ?_
    refine wc_inv (fun j : Nat => ⟨[(5, .int .i64 j), (4, .int .i64 i), (3, .ptr 65 []), (2, .ptr 66 []), (0, .d (encPL l))], [(65, some (.box 84 (.d (k4 (preO l i p j))))), (66, some (.box 84 (.d (k4 []))))], 72, Tryz.f45.ntmps, 64⟩) (fun j => j ≤ p.length) (fun j => p.length - j) 0 [] (Nat.zero_le _)
      (.of rfl rfl rfl rfl rfl ⟨⟨_, rfl, .refl _⟩, rfl, ⟨_, rfl, .refl _⟩, rfl, ⟨_, rfl, .refl _⟩, rfl, ⟨_, rfl, .refl _⟩, rfl, ⟨_, rfl, .refl _⟩, rfl, trivial⟩ ⟨⟨rfl, rfl, _, rfl, .refl _⟩, ⟨rfl, rfl, _, rfl, .refl _⟩, trivial⟩) ?_
    intro j hj
    refine wc_of ?_;refine qR ?_;iterate 3 refine rC ?_
    refine rQ iA ?_;refine rQ iL ?_;refine rQ iE ?_;refine rC ?_;refine nS ?_
    refine wc_cond rfl (fun h4 => ?_) (fun h4 => ?_)
    · have hjl : j < p.length := by have := of_decide_eq_true h4; omega
      obtain ⟨o, ho⟩ : ∃ o, p[j]? = some o := ⟨_, List.getElem?_eq_getElem hjl⟩
      have ho' : p[((j : Int)).toNat]? = some o := by rw [Int.toNat_natCast]; exact ho
      have hko := (hok p hpm o (List.mem_of_getElem? ho)).kind
      have hwk : IntKind.i64.wrap o.kind = o.kind := wrap_i64 (by omega) (by omega)
      have hgo := preO_go (l := l) (i := i) ho
      have hle := preO_le (j := j) hp
      have q1 := cK_le 1 (preO l i p j)
      have q2 := cK_le 2 (preO l i p j)
      have q3 := cK_le 3 (preO l i p j)
      have q4 := cO_le (preO l i p j)
      by_cases k1 : o.kind = 1
      · have hw0 : IntKind.i64.wrap (o.kind - 1) = 0 := by rw [k1]; rfl
        have e1 := cK_yes (k := 1) (l := preO l i p j) (o := o) (by omega)
        have e2 := cK_no (k := 2) (l := preO l i p j) (o := o) (by omega)
        have e3 := cK_no (k := 3) (l := preO l i p j) (o := o) (by omega)
        have e4 := cO_no (l := preO l i p j) (o := o) (by omega)
        rw [← hgo] at e1 e2 e3 e4
        have hk4 : k4 (preO l i p (j + 1)) = .cons (i6 ((cK 1 (preO l i p j) + 1 : Nat) : Int)) (.cons (i6 ((cK 2 (preO l i p j) : Nat) : Int)) (.cons (i6 ((cK 3 (preO l i p j) : Nat) : Int)) (.cons (i6 ((cO (preO l i p j) : Nat) : Int)) .nil))) := by simp only [k4, e1, e2, e3, e4]
        refine kS ?_;refine wc_seq ?_;refine wc_block ?_;refine sR ?_;iterate 2 refine rC ?_
        refine rQ iA ?_;refine rQ iL ?_;refine rC ?_;refine rQ iA ?_;refine rC ?_;refine rQ iL ?_;refine rQ (conv_int (m := o.kind) tab_ok rfl rfl rfl hwk) ?_;refine rQ (sub_int (m := 0) tab_ok rfl rfl hw0) ?_
        refine rC ?_;refine nQ ?_;refine sR ?_;iterate 3 refine rC ?_
        refine rP ?_;refine rC ?_;refine rP ?_;refine rC ?_;refine rQ iG ?_;refine nS ?_;refine wG ?_;refine kS ?_;refine wc_region ?_;iterate 2 refine rC ?_
        refine rQ (step_C tab_ok (fun K hk => ⟨by omega, by omega, hk⟩)) ?_;refine rQ iB ?_;refine rQ iD ?_;refine rQ (step_C tab_ok (fun K hk => ⟨by omega, by omega, hk⟩)) ?_
        refine rX ?_;refine reg_nil ?_;refine blk_n ?_;refine seq_n ?_;refine wc_region ?_;refine rC ?_;refine rQ iD ?_;refine rC ?_;refine reg_nil ?_
        exact loop_n (j + 1) [] hjl (by omega) (.of rfl rfl rfl rfl rfl ⟨⟨_, rfl, .refl _⟩, rfl, ⟨_, rfl, .refl _⟩, rfl, ⟨_, rfl, .refl _⟩, rfl, ⟨_, rfl, .refl _⟩, rfl, ⟨_, rfl, .refl _⟩, rfl, trivial⟩ ⟨⟨rfl, rfl, _, rfl, RowLe.of_eq (by rw [hk4]; rfl)⟩, ⟨rfl, rfl, _, rfl, .refl _⟩, trivial⟩)
      by_cases k2 : o.kind = 2
      · have hw1 : IntKind.i64.wrap (o.kind - 1) = 1 := by rw [k2]; rfl
        have e1 := cK_no (k := 1) (l := preO l i p j) (o := o) (by omega)
        have e2 := cK_yes (k := 2) (l := preO l i p j) (o := o) (by omega)
        have e3 := cK_no (k := 3) (l := preO l i p j) (o := o) (by omega)
        have e4 := cO_no (l := preO l i p j) (o := o) (by omega)
        rw [← hgo] at e1 e2 e3 e4
        have hk4 : k4 (preO l i p (j + 1)) = .cons (i6 ((cK 1 (preO l i p j) : Nat) : Int)) (.cons (i6 ((cK 2 (preO l i p j) + 1 : Nat) : Int)) (.cons (i6 ((cK 3 (preO l i p j) : Nat) : Int)) (.cons (i6 ((cO (preO l i p j) : Nat) : Int)) .nil))) := by simp only [k4, e1, e2, e3, e4]
        refine kS ?_;refine wc_seq ?_;refine wc_block ?_;refine sR ?_;iterate 2 refine rC ?_
        refine rQ iA ?_;refine rQ iL ?_;refine rC ?_;refine rQ iA ?_;refine rC ?_;refine rQ iL ?_;refine rQ (conv_int (m := o.kind) tab_ok rfl rfl rfl hwk) ?_;refine rQ (sub_int (m := 1) tab_ok rfl rfl hw1) ?_
        refine rC ?_;refine nQ ?_;refine sR ?_;iterate 3 refine rC ?_
        refine rP ?_;refine rC ?_;refine rP ?_;refine rC ?_;refine rQ iG ?_;refine nS ?_;refine wG ?_;refine kS ?_;refine wc_region ?_;iterate 2 refine rC ?_
        refine rQ (step_C tab_ok (fun K hk => ⟨by omega, by omega, hk⟩)) ?_;refine rQ iB ?_;refine rQ iD ?_;refine rQ (step_C tab_ok (fun K hk => ⟨by omega, by omega, hk⟩)) ?_
        refine rX ?_;refine reg_nil ?_;refine blk_n ?_;refine seq_n ?_;refine wc_region ?_;refine rC ?_;refine rQ iD ?_;refine rC ?_;refine reg_nil ?_
        exact loop_n (j + 1) [] hjl (by omega) (.of rfl rfl rfl rfl rfl ⟨⟨_, rfl, .refl _⟩, rfl, ⟨_, rfl, .refl _⟩, rfl, ⟨_, rfl, .refl _⟩, rfl, ⟨_, rfl, .refl _⟩, rfl, ⟨_, rfl, .refl _⟩, rfl, trivial⟩ ⟨⟨rfl, rfl, _, rfl, RowLe.of_eq (by rw [hk4]; rfl)⟩, ⟨rfl, rfl, _, rfl, .refl _⟩, trivial⟩)
      by_cases k3 : o.kind = 3
      · have hw2 : IntKind.i64.wrap (o.kind - 1) = 2 := by rw [k3]; rfl
        have e1 := cK_no (k := 1) (l := preO l i p j) (o := o) (by omega)
        have e2 := cK_no (k := 2) (l := preO l i p j) (o := o) (by omega)
        have e3 := cK_yes (k := 3) (l := preO l i p j) (o := o) (by omega)
        have e4 := cO_no (l := preO l i p j) (o := o) (by omega)
        rw [← hgo] at e1 e2 e3 e4
        have hk4 : k4 (preO l i p (j + 1)) = .cons (i6 ((cK 1 (preO l i p j) : Nat) : Int)) (.cons (i6 ((cK 2 (preO l i p j) : Nat) : Int)) (.cons (i6 ((cK 3 (preO l i p j) + 1 : Nat) : Int)) (.cons (i6 ((cO (preO l i p j) : Nat) : Int)) .nil))) := by simp only [k4, e1, e2, e3, e4]
        refine kS ?_;refine wc_seq ?_;refine wc_block ?_;refine sR ?_;iterate 2 refine rC ?_
        refine rQ iA ?_;refine rQ iL ?_;refine rC ?_;refine rQ iA ?_;refine rC ?_;refine rQ iL ?_;refine rQ (conv_int (m := o.kind) tab_ok rfl rfl rfl hwk) ?_;refine rQ (sub_int (m := 2) tab_ok rfl rfl hw2) ?_
        refine rC ?_;refine nQ ?_;refine sR ?_;iterate 3 refine rC ?_
        refine rP ?_;refine rC ?_;refine rP ?_;refine rC ?_;refine rQ iG ?_;refine nS ?_;refine wG ?_;refine kS ?_;refine wc_region ?_;iterate 2 refine rC ?_
        refine rQ (step_C tab_ok (fun K hk => ⟨by omega, by omega, hk⟩)) ?_;refine rQ iB ?_;refine rQ iD ?_;refine rQ (step_C tab_ok (fun K hk => ⟨by omega, by omega, hk⟩)) ?_
        refine rX ?_;refine reg_nil ?_;refine blk_n ?_;refine seq_n ?_;refine wc_region ?_;refine rC ?_;refine rQ iD ?_;refine rC ?_;refine reg_nil ?_
        exact loop_n (j + 1) [] hjl (by omega) (.of rfl rfl rfl rfl rfl ⟨⟨_, rfl, .refl _⟩, rfl, ⟨_, rfl, .refl _⟩, rfl, ⟨_, rfl, .refl _⟩, rfl, ⟨_, rfl, .refl _⟩, rfl, ⟨_, rfl, .refl _⟩, rfl, trivial⟩ ⟨⟨rfl, rfl, _, rfl, RowLe.of_eq (by rw [hk4]; rfl)⟩, ⟨rfl, rfl, _, rfl, .refl _⟩, trivial⟩)
      have hwx : IntKind.i64.wrap (o.kind - 1) = o.kind - 1 := wrap_i64 (by omega) (by omega)
      have e1 := cK_no (k := 1) (l := preO l i p j) (o := o) (by omega)
      have e2 := cK_no (k := 2) (l := preO l i p j) (o := o) (by omega)
      have e3 := cK_no (k := 3) (l := preO l i p j) (o := o) (by omega)
      have e4 := cO_yes (l := preO l i p j) (o := o) k1 k2 k3
      rw [← hgo] at e1 e2 e3 e4
      have hk4 : k4 (preO l i p (j + 1)) = .cons (i6 ((cK 1 (preO l i p j) : Nat) : Int)) (.cons (i6 ((cK 2 (preO l i p j) : Nat) : Int)) (.cons (i6 ((cK 3 (preO l i p j) : Nat) : Int)) (.cons (i6 ((cO (preO l i p j) + 1 : Nat) : Int)) .nil))) := by simp only [k4, e1, e2, e3, e4]
      by_cases k0 : o.kind = 0
      · have d1 : decide (o.kind - 1 < 0) = true := decide_eq_true (by omega)
        refine kS ?_;refine wc_seq ?_;refine wc_block ?_;refine sR ?_;iterate 2 refine rC ?_
        refine rQ iA ?_;refine rQ iL ?_;refine rC ?_;refine rQ iA ?_;refine rC ?_;refine rQ iL ?_;refine rQ (conv_int (m := o.kind) tab_ok rfl rfl rfl hwk) ?_;refine rQ (sub_int (m := o.kind - 1) tab_ok rfl rfl hwx) ?_
        refine rC ?_;refine nQ ?_;refine sR ?_;iterate 3 refine rC ?_
        iterate 2 refine rS ?_
        refine rQ iT ?_;refine nS ?_;refine wV ?_;refine wc_region ?_;refine rC ?_;refine nS ?_;refine wc_region ?_;iterate 2 refine rC ?_
        refine rQ (step_C tab_ok (fun K hk => ⟨by omega, by omega, hk⟩)) ?_;refine rQ iB ?_;refine rQ iD ?_;refine rQ (step_C tab_ok (fun K hk => ⟨by omega, by omega, hk⟩)) ?_
        refine rX ?_;refine reg_nil ?_;refine blk_n ?_;refine seq_n ?_;refine wc_region ?_;refine rC ?_;refine rQ iD ?_;refine rC ?_;refine reg_nil ?_
        exact loop_n (j + 1) [] hjl (by omega) (.of rfl rfl rfl rfl rfl ⟨⟨_, rfl, .refl _⟩, rfl, ⟨_, rfl, .refl _⟩, rfl, ⟨_, rfl, .refl _⟩, rfl, ⟨_, rfl, .refl _⟩, rfl, ⟨_, rfl, .refl _⟩, rfl, trivial⟩ ⟨⟨rfl, rfl, _, rfl, RowLe.of_eq (by rw [hk4]; rfl)⟩, ⟨rfl, rfl, _, rfl, .refl _⟩, trivial⟩)
      · have d1 : decide (o.kind - 1 < 0) = false := decide_eq_false (by omega)
        have d2 : decide (2 < o.kind - 1) = true := decide_eq_true (by omega)
        refine kS ?_;refine wc_seq ?_;refine wc_block ?_;refine sR ?_;iterate 2 refine rC ?_
        refine rQ iA ?_;refine rQ iL ?_;refine rC ?_;refine rQ iA ?_;refine rC ?_;refine rQ iL ?_;refine rQ (conv_int (m := o.kind) tab_ok rfl rfl rfl hwk) ?_;refine rQ (sub_int (m := o.kind - 1) tab_ok rfl rfl hwx) ?_
        refine rC ?_;refine nQ ?_;refine sR ?_;iterate 3 refine rC ?_
        refine rO ?_;refine rC ?_;refine rO ?_;refine rC ?_;refine rQ iF ?_;refine nS ?_;refine wT ?_;refine wc_region ?_;refine rC ?_;refine nS ?_;refine wc_region ?_;iterate 2 refine rC ?_
        refine rQ (step_C tab_ok (fun K hk => ⟨by omega, by omega, hk⟩)) ?_;refine rQ iB ?_;refine rQ iD ?_;refine rQ (step_C tab_ok (fun K hk => ⟨by omega, by omega, hk⟩)) ?_
        refine rX ?_;refine reg_nil ?_;refine blk_n ?_;refine seq_n ?_;refine wc_region ?_;refine rC ?_;refine rQ iD ?_;refine rC ?_;refine reg_nil ?_
        exact loop_n (j + 1) [] hjl (by omega) (.of rfl rfl rfl rfl rfl ⟨⟨_, rfl, .refl _⟩, rfl, ⟨_, rfl, .refl _⟩, rfl, ⟨_, rfl, .refl _⟩, rfl, ⟨_, rfl, .refl _⟩, rfl, ⟨_, rfl, .refl _⟩, rfl, trivial⟩ ⟨⟨rfl, rfl, _, rfl, RowLe.of_eq (by rw [hk4]; rfl)⟩, ⟨rfl, rfl, _, rfl, .refl _⟩, trivial⟩)
    · have he : j = p.length := by have := of_decide_eq_false h4; omega
      subst he
      refine wc_exit ?_;refine seq_x ?_;refine loop_x ?_;refine blk_x ?_;refine blk_n ?_;refine seq_n ?_;refine wc_region ?_;refine rC ?_;refine rQ iD ?_;refine rC ?_
      refine reg_nil ?_
      rw [preO_end hp]
      exact loop_n (i + 1) [] hlt (by omega) (.of rfl rfl rfl rfl rfl ⟨⟨_, rfl, .refl _⟩, rfl, ⟨_, rfl, .refl _⟩, rfl, ⟨_, rfl, .refl _⟩, rfl, ⟨_, rfl, .refl _⟩, rfl, trivial⟩ ⟨⟨rfl, rfl, _, rfl, .refl _⟩, ⟨rfl, rfl, _, rfl, .refl _⟩, trivial⟩)
  · have he : i = l.length := by have := of_decide_eq_false h3; omega
    subst he
    rw [List.take_length]
    refine wc_exit ?_;refine seq_x ?_;refine loop_x ?_;refine blk_x ?_;refine seq_n ?_;refine sR ?_;refine rQ iM ?_;refine rW ?_;refine nS ?_;refine wc_ret ?_
    exact ⟨trivial, _, rfl, [], lf⟩
end Go.Proofs.YtmojbghcngdkpaaGreatDoor

namespace Go.Proofs.YtmojbghcngdkpaaGreatDoor
open Go.Eng Go.Plain
set_option maxHeartbeats 4000000
set_option maxRecDepth 20000
attribute [local irreducible] WC RegS RegD SeqQ BlkQ ScoQ RegK CutK Sat SatN FnIs LoopQ StepIs OpIs
def wStep (n : Int) (s : List Int × Bool) (x : Int) : List Int × Bool :=
  let t := if s.2 = false ∧ n ≤ x then (s.1 ++ [n], true) else s
  (if x = n then t.1 else t.1 ++ [x], t.2)
def wPre (n : Int) (l : List Int) : List Int × Bool := l.foldl (wStep n) ([], false)
def withL (l : List Int) (n : Int) : List Int := if (wPre n l).2 = true then (wPre n l).1 else (wPre n l).1 ++ [n]
theorem wPre_go {n x : Int} {l : List Int} {i : Nat} (h : l[i]? = some x) : wPre n (l.take (i + 1)) = wStep n (wPre n (l.take i)) x := by
  rw [wPre, List.take_add_one, h, List.foldl_append]
  rfl
theorem wStep_len (n x : Int) (s : List Int × Bool) : (wStep n s x).1.length ≤ s.1.length + 2 := by
  obtain ⟨o, d⟩ := s
  cases d <;> by_cases h1 : n ≤ x <;> by_cases h2 : x = n <;> simp [wStep, h1, h2]
theorem wPre_len (n : Int) (l : List Int) : (wPre n l).1.length ≤ 2 * l.length := by
  have key : ∀ (l : List Int) (s : List Int × Bool), (l.foldl (wStep n) s).1.length ≤ 2 * l.length + s.1.length := by
    intro l
    induction l with
    | nil => intro s; simp
    | cons x l ih =>
      intro s
      have h1 := ih (wStep n s x)
      have h2 := wStep_len n x s
      simp only [List.foldl_cons, List.length_cons]
      omega
  exact Nat.le_trans (key l ([], false)) (Nat.le_of_eq (by simp))
def bi (b : Bool) : Int := if b then 1 else 0
abbrev rowI (l : List Int) : Row := .ds 3 1 false i6 l
theorem with_own (l : List Int) (n : Int) (hl : l.length ≤ 100000) : FnIs Tryz.prog 90 [.d (.arr 1 i6 l), .int .i64 n] [] (.own 64 0 (withL l n).length 1 none) [(64, rowI (withL l n))] := by
  refine fnIs_of tab_ok Tryz.func90 rfl rfl rfl ?_;refine sR ?_;refine rC ?_;refine nR ?_;refine rC ?_;refine nR ?_;refine rC ?_;refine nQ ?_;refine sR ?_;refine rC ?_
  refine nS ?_;refine wc_block ?_
  refine wc_inv (fun i : Nat => ⟨[(7, .int .i64 i), (6, .int .i64 (bi (wPre n (l.take i)).2)), (5, .own 65 0 (wPre n (l.take i)).1.length 1 none), (1, .int .i64 n), (0, .d (.arr 1 i6 l))], [(65, some (rowI (wPre n (l.take i)).1))], 72, Tryz.f90.ntmps, 64⟩) (fun i => i ≤ l.length) (fun i => l.length - i) 0 [(65, none)] (Nat.zero_le _)
    (.of rfl rfl rfl rfl rfl ⟨⟨_, rfl, .refl _⟩, rfl, ⟨_, rfl, .refl _⟩, rfl, ⟨_, rfl, .refl _⟩, rfl, ⟨_, rfl, .refl _⟩, rfl, ⟨_, rfl, .refl _⟩, rfl, trivial⟩ ⟨⟨rfl, rfl, rfl⟩, trivial⟩) ?_
  intro i hi
  refine wc_of ?_;refine qR ?_;iterate 2 refine rC ?_
  refine rQ iE ?_;refine rC ?_;refine nS ?_
  refine wc_cond rfl (fun h3 => ?_) (fun h3 => ?_)
  · have hlt : i < l.length := by have := of_decide_eq_true h3; omega
    obtain ⟨x, hx⟩ : ∃ x, l[i]? = some x := ⟨_, List.getElem?_eq_getElem hlt⟩
    have hx' : l[((i : Int)).toNat]? = some x := by rw [Int.toNat_natCast]; exact hx
    have hgo := wPre_go (n := n) hx
    have hln := wPre_len n (l.take i)
    rw [List.length_take] at hln
    have hA : (wPre n (l.take i)).1.length + 1 ≤ 1048576 := by omega
    generalize hw : wPre n (l.take i) = w at *
    obtain ⟨o1, d⟩ := w
    simp only at hA hln
    have hB : o1.length + 1 ≤ 1048576 := hA
    cases d with
    | true =>
      by_cases hxn : x = n
      · have hz : 0 = 0 := rfl
        have hq : (!decide (x = n)) = false := by rw [decide_eq_true hxn]; rfl
        have hs : wPre n (l.take (i + 1)) = (o1, true) := by rw [hgo]; simp [wStep, *]
        have hlq : (wPre n (l.take (i + 1))).1.length = o1.length := by rw [hs]; try simp
        refine kS ?_;refine wc_seq ?_;refine wc_block ?_;refine qR ?_;iterate 3 refine rC ?_
        iterate 6 refine rT ?_
        refine rQ iG ?_;refine nS ?_;refine wG ?_;refine kS ?_;refine sR ?_;iterate 2 refine rC ?_
        refine rQ iA ?_;refine rQ iL ?_;iterate 2 refine rC ?_
        refine nS ?_;refine wF ?_;refine wc_skip ?_;refine blk_n ?_;refine seq_n ?_;refine wc_region ?_;refine rC ?_;refine rQ iD ?_;refine rC ?_;refine reg_nil ?_
        exact loop_n (i + 1) [] hlt (by omega) (.of rfl rfl rfl rfl rfl ⟨⟨_, rfl, .refl _⟩, rfl, ⟨_, rfl, AVLe.of_eq (by rw [hs]; rfl)⟩, rfl, ⟨_, rfl, AVLe.of_eq (by rw [hlq]; rfl)⟩, rfl, ⟨_, rfl, .refl _⟩, rfl, ⟨_, rfl, .refl _⟩, rfl, trivial⟩ ⟨⟨rfl, rfl, _, rfl, RowLe.of_eq (by rw [hs]; rfl)⟩, trivial⟩)
      · have hz : 0 = 0 := rfl
        have hq : (!decide (x = n)) = true := by rw [decide_eq_false hxn]; rfl
        have hs : wPre n (l.take (i + 1)) = (o1 ++ [x], true) := by rw [hgo]; simp [wStep, *]
        have hlq : (wPre n (l.take (i + 1))).1.length = o1.length + 1 := by rw [hs]; try simp
        refine kS ?_;refine wc_seq ?_;refine wc_block ?_;refine qR ?_;iterate 3 refine rC ?_
        iterate 6 refine rT ?_
        refine rQ iG ?_;refine nS ?_;refine wG ?_;refine kS ?_;refine sR ?_;iterate 2 refine rC ?_
        refine rQ iA ?_;refine rQ iL ?_;iterate 2 refine rC ?_
        refine nS ?_;refine wT ?_;refine wc_region ?_;iterate 3 refine rC ?_
        refine rQ iA ?_;refine rQ iL ?_;refine reg_new (build_slice (s := 1) tab_ok rfl rfl rfl rfl rfl rfl rfl rfl) rfl ?_;refine reg_new2 (append_one (xs := o1) (s := 1) (enc := i6) tab_ok x rfl rfl rfl rfl rfl rfl rfl rfl rfl hB rfl) rfl ?_
        refine rC ?_;refine reg_nil ?_;refine blk_n ?_;refine seq_n ?_;refine wc_region ?_;refine rC ?_;refine rQ iD ?_;refine rC ?_;refine reg_nil ?_
        exact loop_n (i + 1) [(65, some 280)] hlt (by omega) (.of rfl rfl rfl rfl rfl ⟨⟨_, rfl, .refl _⟩, rfl, ⟨_, rfl, AVLe.of_eq (by rw [hs]; rfl)⟩, rfl, ⟨_, rfl, AVLe.of_eq (by rw [hlq]; rfl)⟩, rfl, ⟨_, rfl, .refl _⟩, rfl, ⟨_, rfl, .refl _⟩, rfl, trivial⟩ ⟨⟨rfl, rfl, _, rfl, RowLe.of_eq (by rw [hs]; rfl)⟩, trivial⟩)
    | false =>
      by_cases hnx : n ≤ x
      · by_cases hxn : x = n
        · have hz : 0 = 0 := rfl
          have hq : (!decide (x = n)) = false := by rw [decide_eq_true hxn]; rfl
          have hg : decide (n ≤ x) = true := decide_eq_true hnx
          have hs : wPre n (l.take (i + 1)) = (o1 ++ [n], true) := by rw [hgo]; simp [wStep, *]
          have hlq : (wPre n (l.take (i + 1))).1.length = o1.length + 1 := by rw [hs]; try simp
          refine kS ?_;refine wc_seq ?_;refine wc_block ?_;refine qR ?_;iterate 3 refine rC ?_
          refine rP ?_;refine rC ?_;refine rP ?_;refine rC ?_;refine rP ?_;refine rQ iA ?_;refine rP ?_;refine rQ iL ?_;refine rP ?_;refine rC ?_;refine rP ?_;refine rC ?_
          refine rQ iU ?_;refine nS ?_;refine wT ?_;refine sR ?_;iterate 2 refine rC ?_
          refine reg_new (build_slice (s := 1) tab_ok rfl rfl rfl rfl rfl rfl rfl rfl) rfl ?_;refine reg_new2 (append_one (xs := o1) (s := 1) (enc := i6) tab_ok n rfl rfl rfl rfl rfl rfl rfl rfl rfl hA rfl) rfl ?_
          refine rC ?_;refine nS ?_;refine wc_region ?_;refine rC ?_;refine nR ?_;iterate 2 refine rC ?_
          refine rQ iA ?_;refine rQ iL ?_;iterate 2 refine rC ?_
          refine nS ?_;refine wF ?_;refine wc_skip ?_;refine blk_n ?_;refine seq_n ?_;refine wc_region ?_;refine rC ?_;refine rQ iD ?_;refine rC ?_;refine reg_nil ?_
          exact loop_n (i + 1) [(65, some 208)] hlt (by omega) (.of rfl rfl rfl rfl rfl ⟨⟨_, rfl, .refl _⟩, rfl, ⟨_, rfl, AVLe.of_eq (by rw [hs]; rfl)⟩, rfl, ⟨_, rfl, AVLe.of_eq (by rw [hlq]; rfl)⟩, rfl, ⟨_, rfl, .refl _⟩, rfl, ⟨_, rfl, .refl _⟩, rfl, trivial⟩ ⟨⟨rfl, rfl, _, rfl, RowLe.of_eq (by rw [hs]; rfl)⟩, trivial⟩)
        · have hz : 0 = 0 := rfl
          have hq : (!decide (x = n)) = true := by rw [decide_eq_false hxn]; rfl
          have hg : decide (n ≤ x) = true := decide_eq_true hnx
          have hL2 : o1.length + 1 = (o1 ++ [n]).length := by simp
          have hB3 : (o1 ++ [n]).length + [x].length ≤ 1048576 := by simp; omega
          have hs : wPre n (l.take (i + 1)) = (o1 ++ [n] ++ [x], true) := by rw [hgo]; simp [wStep, *]
          have hlq : (wPre n (l.take (i + 1))).1.length = (o1 ++ [n]).length + [x].length := by rw [hs]; try simp
          refine kS ?_;refine wc_seq ?_;refine wc_block ?_;refine qR ?_;iterate 3 refine rC ?_
          refine rP ?_;refine rC ?_;refine rP ?_;refine rC ?_;refine rP ?_;refine rQ iA ?_;refine rP ?_;refine rQ iL ?_;refine rP ?_;refine rC ?_;refine rP ?_;refine rC ?_
          refine rQ iU ?_;refine nS ?_;refine wT ?_;refine sR ?_;iterate 2 refine rC ?_
          refine reg_new (build_slice (s := 1) tab_ok rfl rfl rfl rfl rfl rfl rfl rfl) rfl ?_;refine reg_new2 (append_one (xs := o1) (s := 1) (enc := i6) tab_ok n rfl rfl rfl rfl rfl rfl rfl rfl rfl hA rfl) rfl ?_
          refine rC ?_;refine nS ?_;refine wc_region ?_;refine rC ?_;refine nR ?_;iterate 2 refine rC ?_
          refine rQ iA ?_;refine rQ iL ?_;iterate 2 refine rC ?_
          refine nS ?_;refine wT ?_;refine wc_region ?_;iterate 3 refine rC ?_
          refine rQ iA ?_;refine rQ iL ?_;refine reg_new (build_slice (s := 1) tab_ok rfl rfl rfl rfl rfl rfl rfl rfl) rfl ?_;refine reg_new2 (append_litsL (α := Int) (s := 1) (enc := i6) (xs := o1 ++ [n]) tab_ok [x] rfl rfl rfl rfl rfl hL2 rfl rfl rfl rfl (fun _ _ => rfl) (by decide) hB3 rfl) rfl ?_
          refine rC ?_;refine reg_nil ?_;refine blk_n ?_;refine seq_n ?_;refine wc_region ?_;refine rC ?_;refine rQ iD ?_;refine rC ?_;refine reg_nil ?_
          exact loop_n (i + 1) [(65, some 328)] hlt (by omega) (.of rfl rfl rfl rfl rfl ⟨⟨_, rfl, .refl _⟩, rfl, ⟨_, rfl, AVLe.of_eq (by rw [hs]; rfl)⟩, rfl, ⟨_, rfl, AVLe.of_eq (by rw [hlq]; rfl)⟩, rfl, ⟨_, rfl, .refl _⟩, rfl, ⟨_, rfl, .refl _⟩, rfl, trivial⟩ ⟨⟨rfl, rfl, _, rfl, RowLe.of_eq (by rw [hs]; rfl)⟩, trivial⟩)
      · by_cases hxn : x = n
        · exact absurd (by omega) hnx
        · have hz : 0 = 0 := rfl
          have hq : (!decide (x = n)) = true := by rw [decide_eq_false hxn]; rfl
          have hg : decide (n ≤ x) = false := decide_eq_false hnx
          have hs : wPre n (l.take (i + 1)) = (o1 ++ [x], false) := by rw [hgo]; simp [wStep, *]
          have hlq : (wPre n (l.take (i + 1))).1.length = o1.length + 1 := by rw [hs]; try simp
          refine kS ?_;refine wc_seq ?_;refine wc_block ?_;refine qR ?_;iterate 3 refine rC ?_
          refine rP ?_;refine rC ?_;refine rP ?_;refine rC ?_;refine rP ?_;refine rQ iA ?_;refine rP ?_;refine rQ iL ?_;refine rP ?_;refine rC ?_;refine rP ?_;refine rC ?_
          refine rQ iU ?_;refine nS ?_;refine wF ?_;refine kS ?_;refine sR ?_;iterate 2 refine rC ?_
          refine rQ iA ?_;refine rQ iL ?_;iterate 2 refine rC ?_
          refine nS ?_;refine wT ?_;refine wc_region ?_;iterate 3 refine rC ?_
          refine rQ iA ?_;refine rQ iL ?_;refine reg_new (build_slice (s := 1) tab_ok rfl rfl rfl rfl rfl rfl rfl rfl) rfl ?_;refine reg_new2 (append_one (xs := o1) (s := 1) (enc := i6) tab_ok x rfl rfl rfl rfl rfl rfl rfl rfl rfl hB rfl) rfl ?_
          refine rC ?_;refine reg_nil ?_;refine blk_n ?_;refine seq_n ?_;refine wc_region ?_;refine rC ?_;refine rQ iD ?_;refine rC ?_;refine reg_nil ?_
          exact loop_n (i + 1) [(65, some 280)] hlt (by omega) (.of rfl rfl rfl rfl rfl ⟨⟨_, rfl, .refl _⟩, rfl, ⟨_, rfl, AVLe.of_eq (by rw [hs]; rfl)⟩, rfl, ⟨_, rfl, AVLe.of_eq (by rw [hlq]; rfl)⟩, rfl, ⟨_, rfl, .refl _⟩, rfl, ⟨_, rfl, .refl _⟩, rfl, trivial⟩ ⟨⟨rfl, rfl, _, rfl, RowLe.of_eq (by rw [hs]; rfl)⟩, trivial⟩)
  · have he : i = l.length := by have := of_decide_eq_false h3; omega
    subst he
    rw [List.take_length]
    have hln := wPre_len n l
    have hwl : withL l n = if (wPre n l).2 = true then (wPre n l).1 else (wPre n l).1 ++ [n] := rfl
    generalize hw : wPre n l = w at *
    obtain ⟨o1, d⟩ := w
    simp only at hln
    have hA : o1.length + 1 ≤ 1048576 := by omega
    cases d with
    | true =>
      rw [hwl]
      refine wc_exit ?_;refine seq_x ?_;refine loop_x ?_;refine blk_x ?_;refine seq_n ?_;refine qR ?_;iterate 2 refine rC ?_
      refine nS ?_;refine wG ?_;refine kS ?_;refine sR ?_;iterate 2 refine rC ?_
      refine nS ?_;refine wc_ret ?_
      exact ⟨trivial, [(64, some 65)], .of rfl rfl rfl rfl rfl ⟨⟨_, rfl, AVLe.of_eq rfl⟩, rfl, trivial⟩ ⟨⟨rfl, rfl, _, rfl, .refl _⟩, trivial⟩⟩
    | false =>
      rw [hwl]
      have hz : (o1 ++ [n]).length = o1.length + 1 := by simp
      refine wc_exit ?_;refine seq_x ?_;refine loop_x ?_;refine blk_x ?_;refine seq_n ?_;refine qR ?_;iterate 2 refine rC ?_
      refine nS ?_;refine wV ?_;refine wc_region ?_;iterate 2 refine rC ?_
      refine reg_new (build_slice (s := 1) tab_ok rfl rfl rfl rfl rfl rfl rfl rfl) rfl ?_;refine reg_new2 (append_one (xs := o1) (s := 1) (enc := i6) tab_ok n rfl rfl rfl rfl rfl rfl rfl rfl rfl hA rfl) rfl ?_
      refine rC ?_;refine nR ?_;iterate 2 refine rC ?_
      refine nS ?_;refine wc_ret ?_
      exact ⟨trivial, [(64, some 144)], .of rfl rfl rfl rfl rfl ⟨⟨_, rfl, AVLe.of_eq (by simp only [Bool.false_eq_true, if_false, hz]; rfl)⟩, rfl, trivial⟩ ⟨⟨rfl, rfl, _, rfl, .refl _⟩, trivial⟩⟩
theorem with_is (l : List Int) (n : Int) (hl : l.length ≤ 100000) : FnIs Tryz.prog 90 [.d (.arr 1 i6 l), .int .i64 n] [] (.d (.arr 1 i6 (withL l n))) [] :=
  (with_own l n hl).freeze_out 64 _ rfl (Frz.own rfl) trivial
end Go.Proofs.YtmojbghcngdkpaaGreatDoor

namespace Go.Proofs.YtmojbghcngdkpaaGreatDoor
open Go.Eng Go.Plain
def uB : Bool → Nat
  | true => 0
  | false => 1
theorem wStep_le (n x : Int) (s : List Int × Bool) : (wStep n s x).1.length + uB (wStep n s x).2 ≤ s.1.length + uB s.2 + 1 := by
  obtain ⟨o, d⟩ := s
  cases d <;> by_cases h1 : n ≤ x <;> by_cases h2 : x = n <;> simp [wStep, h1, h2, uB]
theorem wPre_le (n : Int) (l : List Int) : (wPre n l).1.length + uB (wPre n l).2 ≤ l.length + 1 := by
  have key : ∀ (l : List Int) (s : List Int × Bool), (l.foldl (wStep n) s).1.length + uB (l.foldl (wStep n) s).2 ≤ l.length + (s.1.length + uB s.2) := by
    intro l
    induction l with
    | nil => intro s; simp
    | cons x l ih =>
      intro s
      have h1 := ih (wStep n s x)
      have h2 := wStep_le n x s
      simp only [List.foldl_cons, List.length_cons]
      omega
  exact Nat.le_trans (key l ([], false)) (Nat.le_of_eq (by simp [uB]))
theorem withL_le (l : List Int) (n : Int) : (withL l n).length ≤ l.length + 1 := by
  have := wPre_le n l
  rw [withL]
  split
  · omega
  · rename_i h
    have hd : (wPre n l).2 = false := by simpa using h
    rw [hd] at this
    simp only [uB] at this
    simp only [List.length_append, List.length_cons, List.length_nil]
    omega
def touB (b : Int) (o : POp) : Bool := !decide (o.kind = 3) && !badO o b
def touS (b : Int) (acc : List Int) (o : POp) : List Int := if touB b o = true then withL acc o.index else acc
def touL (b : Int) (l : List POp) : List Int := l.foldl (touS b) []
theorem touL_snoc (b : Int) (l : List POp) (o : POp) : touL b (l ++ [o]) = touS b (touL b l) o := by simp [touL]
theorem touL_len (b : Int) (l : List POp) : (touL b l).length ≤ l.length := by
  have key : ∀ (l : List POp) (a : List Int), (l.foldl (touS b) a).length ≤ a.length + l.length := by
    intro l
    induction l with
    | nil => intro a; simp
    | cons o l ih =>
      intro a
      have h1 := ih (touS b a o)
      have h2 : (touS b a o).length ≤ a.length + 1 := by
        rw [touS]
        split
        · exact withL_le _ _
        · omega
      simp only [List.foldl_cons, List.length_cons]
      omega
  have := key l []
  rw [touL]
  simpa using this
end Go.Proofs.YtmojbghcngdkpaaGreatDoor

namespace Go.Proofs.YtmojbghcngdkpaaGreatDoor
open Go.Eng Go.Plain
set_option maxHeartbeats 4000000
set_option maxRecDepth 20000
attribute [local irreducible] WC RegS RegD SeqQ BlkQ ScoQ RegK CutK Sat SatN FnIs LoopQ StepIs OpIs
theorem rtouched_is (l : List (List POp)) (b : Int) (hL : l.length ≤ 100000) (hF : l.flatten.length ≤ 100000) : FnIs Tryz.prog 44 [.d (encPL l), .int .i64 b] [] (.d (.arr 1 i6 (touL b l.flatten))) [] := by
  refine fnIs_of tab_ok Tryz.func44 rfl rfl rfl ?_;refine sR ?_;refine rC ?_;refine nR ?_;refine rC ?_;refine nQ ?_;refine sR ?_;refine rC ?_;refine nS ?_;refine wc_block ?_
  refine wc_inv (fun i : Nat => ⟨[(6, .int .i64 i), (5, .d (.arr 1 i6 (touL b (l.take i).flatten))), (1, .int .i64 b), (0, .d (encPL l))], [], 72, Tryz.f44.ntmps, 64⟩) (fun i => i ≤ l.length) (fun i => l.length - i) 0 [] (Nat.zero_le _)
    (.of rfl rfl rfl rfl rfl ⟨⟨_, rfl, .refl _⟩, rfl, ⟨_, rfl, nil_arr _ _⟩, rfl, ⟨_, rfl, .refl _⟩, rfl, ⟨_, rfl, .refl _⟩, rfl, trivial⟩ trivial) ?_
  intro i hi
  refine wc_of ?_;refine qR ?_;iterate 2 refine rC ?_
  refine rQ iE ?_;refine rC ?_;refine nS ?_
  refine wc_cond rfl (fun h3 => ?_) (fun h3 => ?_)
  · have hlt : i < l.length := by have := of_decide_eq_true h3; omega
    obtain ⟨p, hp⟩ : ∃ p, l[i]? = some p := ⟨_, List.getElem?_eq_getElem hlt⟩
    have hp' : l[((i : Int)).toNat]? = some p := by rw [Int.toNat_natCast]; exact hp
    have hfm := flat_mem_le hp
    rw [← preO_zero l i p]
    refine kS ?_;refine wc_seq ?_;refine wc_block ?_;refine sR ?_;refine rC ?_;refine nS ?_;refine wc_block ?_
    refine wc_inv (fun j : Nat => ⟨[(7, .int .i64 j), (6, .int .i64 i), (5, .d (.arr 1 i6 (touL b (preO l i p j)))), (1, .int .i64 b), (0, .d (encPL l))], [], 72, Tryz.f44.ntmps, 64⟩) (fun j => j ≤ p.length) (fun j => p.length - j) 0 [] (Nat.zero_le _)
      (.of rfl rfl rfl rfl rfl ⟨⟨_, rfl, .refl _⟩, rfl, ⟨_, rfl, .refl _⟩, rfl, ⟨_, rfl, .refl _⟩, rfl, ⟨_, rfl, .refl _⟩, rfl, ⟨_, rfl, .refl _⟩, rfl, trivial⟩ trivial) ?_
    intro j hj
    refine wc_of ?_;refine qR ?_;iterate 3 refine rC ?_
    refine rQ iA ?_;refine rQ iL ?_;refine rQ iE ?_;refine rC ?_;refine nS ?_
    refine wc_cond rfl (fun h4 => ?_) (fun h4 => ?_)
    · have hjl : j < p.length := by have := of_decide_eq_true h4; omega
      obtain ⟨o, ho⟩ : ∃ o, p[j]? = some o := ⟨_, List.getElem?_eq_getElem hjl⟩
      have ho' : p[((j : Int)).toNat]? = some o := by rw [Int.toNat_natCast]; exact ho
      have hgo := preO_go (l := l) (i := i) ho
      have hle := preO_le (j := j) hp
      have htl := touL_len b (preO l i p j)
      have hwith := with_is (touL b (preO l i p j)) o.index (by omega)
      have hstep : touL b (preO l i p (j + 1)) = touS b (touL b (preO l i p j)) o := by rw [hgo, touL_snoc]
      by_cases k3 : o.kind = 3
      · have hk : (!decide (o.kind = 3)) = false := by rw [decide_eq_true k3]; rfl
        have hs : touL b (preO l i p (j + 1)) = touL b (preO l i p j) := by rw [hstep, touS, touB, hk]; rfl
        refine kS ?_;refine wc_seq ?_;refine wc_block ?_;refine sR ?_;iterate 2 refine rC ?_
        refine rQ iA ?_;refine rQ iL ?_;refine rC ?_;refine rQ iA ?_;refine rC ?_;refine rQ iL ?_;iterate 2 refine rC ?_
        iterate 10 refine rS ?_
        refine rQ iF ?_;refine nS ?_;refine wG ?_;refine wc_skip ?_;refine blk_n ?_;refine seq_n ?_;refine wc_region ?_;refine rC ?_;refine rQ iD ?_;refine rC ?_;refine reg_nil ?_
        exact loop_n (j + 1) [] hjl (by omega) (.of rfl rfl rfl rfl rfl ⟨⟨_, rfl, .refl _⟩, rfl, ⟨_, rfl, .refl _⟩, rfl, ⟨_, rfl, AVLe.of_eq (by rw [hs]; rfl)⟩, rfl, ⟨_, rfl, .refl _⟩, rfl, ⟨_, rfl, .refl _⟩, rfl, trivial⟩ trivial)
      have hk : (!decide (o.kind = 3)) = true := by rw [decide_eq_false k3]; rfl
      cases hb : badO o b with
      | true =>
        have hbad := rbad_is o b
        rw [hb] at hbad
        have hs : touL b (preO l i p (j + 1)) = touL b (preO l i p j) := by rw [hstep, touS, touB, hk, hb]; rfl
        refine kS ?_;refine wc_seq ?_;refine wc_block ?_;refine sR ?_;iterate 2 refine rC ?_
        refine rQ iA ?_;refine rQ iL ?_;refine rC ?_;refine rQ iA ?_;refine rC ?_;refine rQ iL ?_;iterate 2 refine rC ?_
        refine rO ?_;refine rC ?_;refine rO ?_;refine rC ?_;refine rO ?_;refine rQ iA ?_;refine rO ?_;refine rQ iL ?_;refine rO ?_;refine rC ?_;refine rO ?_;refine rQ iA ?_
        refine rO ?_;refine rQ iL ?_;refine rO ?_;refine rC ?_;refine rO ?_;refine rQ (call_r hbad rfl rfl (arg_e (arg_e arg_nil)) (.inl rfl) (fun _ => rfl)) ?_;refine rO ?_
        refine rC ?_;refine rQ iT ?_;refine nS ?_;refine wG ?_;refine wc_skip ?_;refine blk_n ?_;refine seq_n ?_;refine wc_region ?_;refine rC ?_;refine rQ iD ?_;refine rC ?_
        refine reg_nil ?_
        exact loop_n (j + 1) [] hjl (by omega) (.of rfl rfl rfl rfl rfl ⟨⟨_, rfl, .refl _⟩, rfl, ⟨_, rfl, .refl _⟩, rfl, ⟨_, rfl, AVLe.of_eq (by rw [hs]; rfl)⟩, rfl, ⟨_, rfl, .refl _⟩, rfl, ⟨_, rfl, .refl _⟩, rfl, trivial⟩ trivial)
      | false =>
        have hbad := rbad_is o b
        rw [hb] at hbad
        have hs : touL b (preO l i p (j + 1)) = withL (touL b (preO l i p j)) o.index := by rw [hstep, touS, touB, hk, hb]; rfl
        refine kS ?_;refine wc_seq ?_;refine wc_block ?_;refine sR ?_;iterate 2 refine rC ?_
        refine rQ iA ?_;refine rQ iL ?_;refine rC ?_;refine rQ iA ?_;refine rC ?_;refine rQ iL ?_;iterate 2 refine rC ?_
        refine rO ?_;refine rC ?_;refine rO ?_;refine rC ?_;refine rO ?_;refine rQ iA ?_;refine rO ?_;refine rQ iL ?_;refine rO ?_;refine rC ?_;refine rO ?_;refine rQ iA ?_
        refine rO ?_;refine rQ iL ?_;refine rO ?_;refine rC ?_;refine rO ?_;refine rQ (call_r hbad rfl rfl (arg_e (arg_e arg_nil)) (.inl rfl) (fun _ => rfl)) ?_;refine rO ?_
        refine rC ?_;refine rQ iT ?_;refine nS ?_;refine wV ?_;refine wc_region ?_;iterate 3 refine rC ?_
        refine rQ iA ?_;refine rQ iL ?_;refine rC ?_;refine rQ iA ?_;refine rC ?_;refine rQ iL ?_;refine rQ (call_r hwith rfl rfl (arg_e (arg_e arg_nil)) (.inl rfl) (fun _ => rfl)) ?_
        refine rC ?_;refine reg_nil ?_;refine blk_n ?_;refine seq_n ?_;refine wc_region ?_;refine rC ?_;refine rQ iD ?_;refine rC ?_;refine reg_nil ?_
        exact loop_n (j + 1) [] hjl (by omega) (.of rfl rfl rfl rfl rfl ⟨⟨_, rfl, .refl _⟩, rfl, ⟨_, rfl, .refl _⟩, rfl, ⟨_, rfl, AVLe.of_eq (by rw [hs]; rfl)⟩, rfl, ⟨_, rfl, .refl _⟩, rfl, ⟨_, rfl, .refl _⟩, rfl, trivial⟩ trivial)
    · have he : j = p.length := by have := of_decide_eq_false h4; omega
      subst he
      refine wc_exit ?_;refine seq_x ?_;refine loop_x ?_;refine blk_x ?_;refine blk_n ?_;refine seq_n ?_;refine wc_region ?_;refine rC ?_;refine rQ iD ?_;refine rC ?_
      refine reg_nil ?_
      rw [preO_end hp]
      exact loop_n (i + 1) [] hlt (by omega) (.of rfl rfl rfl rfl rfl ⟨⟨_, rfl, .refl _⟩, rfl, ⟨_, rfl, .refl _⟩, rfl, ⟨_, rfl, .refl _⟩, rfl, ⟨_, rfl, .refl _⟩, rfl, trivial⟩ trivial)
  · have he : i = l.length := by have := of_decide_eq_false h3; omega
    subst he
    rw [List.take_length]
    refine wc_exit ?_;refine seq_x ?_;refine loop_x ?_;refine blk_x ?_;refine seq_n ?_;refine sR ?_;iterate 2 refine rC ?_
    refine nS ?_;refine wc_ret ?_
    exact ⟨trivial, [], lf⟩
end Go.Proofs.YtmojbghcngdkpaaGreatDoor

namespace Go.Proofs.YtmojbghcngdkpaaGreatDoor
open Go.Eng Go.Plain
set_option maxHeartbeats 4000000
set_option maxRecDepth 20000
attribute [local irreducible] WC RegS RegD SeqQ BlkQ ScoQ RegK CutK Sat SatN FnIs LoopQ StepIs OpIs
theorem exact_is (l : List (List POp)) (hL : l.length ≤ 1000000) : FnIs Tryz.prog 49 [.d (.arx 1 encXP l)] [] (.d (i6 1)) [] := by
  have hd : (!decide ((l.length : Int) = (l.length : Int))) = false := by rw [decide_eq_true rfl]; rfl
  refine fnIs_of tab_ok Tryz.func49 rfl rfl rfl ?_;refine sR ?_;refine rC ?_;refine nQ ?_;refine sR ?_;refine rC ?_;refine rQ (cap_arx tab_ok rfl rfl) ?_;refine rC ?_
  refine rQ (len_arx tab_ok rfl rfl) ?_;refine rC ?_;refine nS ?_;refine wF ?_;refine kS ?_;refine qR ?_;refine rC ?_;refine nS ?_;refine wc_block ?_
  refine wc_inv (fun i : Nat => ⟨[(3, .int .i64 i), (0, .d (.arx 1 encXP l))], [], 72, Tryz.f49.ntmps, 64⟩) (fun i => i ≤ l.length) (fun i => l.length - i) 0 [] (Nat.zero_le _)
    (.of rfl rfl rfl rfl rfl ⟨⟨_, rfl, .refl _⟩, rfl, ⟨_, rfl, .refl _⟩, rfl, trivial⟩ trivial) ?_
  intro i hi
  refine wc_of ?_;refine qR ?_;iterate 2 refine rC ?_
  refine rQ (len_arx tab_ok rfl rfl) ?_;refine rC ?_;refine nS ?_
  refine wc_cond rfl (fun h3 => ?_) (fun h3 => ?_)
  · have hlt : i < l.length := by have := of_decide_eq_true h3; omega
    obtain ⟨p, hp⟩ : ∃ p, l[i]? = some p := ⟨_, List.getElem?_eq_getElem hlt⟩
    have hp' : l[((i : Int)).toNat]? = some p := by rw [Int.toNat_natCast]; exact hp
    have hd2 : (!decide ((p.length : Int) = (p.length : Int))) = false := by rw [decide_eq_true rfl]; rfl
    refine kS ?_;refine wc_seq ?_;refine wc_block ?_;refine wc_seq ?_;refine wc_draw (by kernel_rfl) ?_;refine dC [0] [] ?_;refine dC [3] [] ?_;refine dQ [15, 16] [] (index_arx tab_ok rfl rfl rfl rfl rfl (by omega) (by assumption)) ?_
    refine dQ [17] [] iL ?_;refine dQ [18] [] (cap_arx tab_ok rfl rfl) ?_;refine dC [0] [] ?_;refine dC [3] [] ?_;refine dQ [20, 21] [] (index_arx tab_ok rfl rfl rfl rfl rfl (by omega) (by assumption)) ?_
    refine dQ [22] [] iL ?_;refine dQ [23] [] (len_arx tab_ok rfl rfl) ?_;refine dC [19, 24] [] ?_;refine dreg_end (by kernel_rfl) ?_;refine seq_n ?_;refine wF ?_;refine wc_skip ?_
    refine blk_n ?_;refine seq_n ?_;refine wc_region ?_;refine rC ?_;refine rQ iD ?_;refine rC ?_;refine reg_nil ?_
    exact loop_n (i + 1) [] hlt (by omega) (.of rfl rfl rfl rfl rfl ⟨⟨_, rfl, .refl _⟩, rfl, ⟨_, rfl, .refl _⟩, rfl, trivial⟩ trivial)
  · have he : i = l.length := by have := of_decide_eq_false h3; omega
    subst he
    refine wc_exit ?_;refine seq_x ?_;refine loop_x ?_;refine blk_x ?_;refine seq_n ?_;refine sR ?_;refine rC ?_;refine nS ?_;refine wc_ret ?_
    exact ⟨trivial, [], lf⟩
end Go.Proofs.YtmojbghcngdkpaaGreatDoor

namespace Go.Eng
open Go.RowKit
theorem Enc.arx_arr {w : World} {X : Nat → Prop} {α : Type} {s : Nat} {enc enc' : α → D} {xs : List α} (h : ∀ x c, Enc w X (enc x) c → Enc w X (enc' x) c) : ∀ cs, Enc w X (.arx s enc xs) cs → Enc w X (.arr s enc' xs) cs := by
  intro cs hc
  rcases hc with ⟨rfl, a, rfl⟩ | ⟨a, rfl, h1, f, hf⟩
  · cases a with
    | none => exact .inl ⟨rfl, rfl⟩
    | some a => exact .inr ⟨a, 0, rfl, Nat.le_refl _, Nat.zero_le _, fun _ => [], fun i hi => absurd hi (Nat.not_lt_zero _)⟩
  · exact .inr ⟨a, xs.length, rfl, Nat.le_refl _, h1, f, fun i hi => ⟨h _ _ (hf i hi).1, (hf i hi).2⟩⟩
end Go.Eng

namespace Go.Proofs.YtmojbghcngdkpaaGreatDoor
open Go.Eng Go.Plain
set_option maxHeartbeats 4000000
set_option maxRecDepth 20000
attribute [local irreducible] WC RegS RegD SeqQ BlkQ ScoQ RegK CutK Sat SatN FnIs LoopQ StepIs OpIs
def decD : List UInt8 := [48, 49, 50, 51, 52, 53, 54, 55, 56, 57]
theorem decD_cut {d : Nat} (h : d < 10) : (decD.drop d).take (d + 1 - d) = [UInt8.ofNat (48 + d)] := by
  have : ∀ d, d < 10 → (decD.drop d).take (d + 1 - d) = [UInt8.ofNat (48 + d)] := by decide
  exact this d h
theorem numN_is : ∀ (u : Nat), u ≤ 9223372036854775807 → FnIs Tryz.prog 51 [.int .i64 u] [] (.d (strD (Lib.decDigits u))) [] := by
  intro u
  induction u using Nat.strongRecOn with
  | ind u ih =>
    intro hu
    have hmin : decide ((u : Int) = -9223372036854775808) = false := decide_eq_false (by omega)
    have hneg : decide ((u : Int) < 0) = false := decide_eq_false (by omega)
    have hw1 : IntKind.i64.wrap (((u % 10 : Nat) : Int) + 1) = ((u % 10 + 1 : Nat) : Int) := by rw [wrap_i64 (by omega) (by omega)]; rfl
    have hle : u % 10 + 1 ≤ decD.length := by show u % 10 + 1 ≤ 10; omega
    have hcut := decD_cut (d := u % 10) (by omega)
    refine fnIs_of tab_ok Tryz.func51 rfl rfl rfl ?_
    by_cases h9 : 9 < u
    · have hd : decide (9 < (u : Int)) = true := decide_eq_true (by omega)
      have hrec := ih (u / 10) (by omega) (by omega)
      have hw2 : IntKind.i64.wrap ((u / 10 : Nat) : Int) = ((u / 10 : Nat) : Int) := wrap_i64 (by omega) (by omega)
      have hlen : (Lib.decDigits (u / 10)).length + [UInt8.ofNat (48 + u % 10)].length ≤ 9223372036854775807 := by
        have := dec_len (u := u / 10) (by omega)
        simp; omega
      rw [show Lib.decDigits u = Lib.decDigits (u / 10) ++ [UInt8.ofNat (48 + u % 10)] by rw [Lib.decDigits, dif_neg (by omega)]]
      refine sR ?_;refine rC ?_;refine nQ ?_;refine sR ?_;iterate 2 refine rC ?_
      refine nS ?_;refine wG ?_;refine kS ?_;refine qR ?_;iterate 2 refine rC ?_
      refine nS ?_;refine wG ?_;refine kS ?_;refine sR ?_;refine rC ?_;refine rQ (rem_nat (a := u) (b := 10) tab_ok rfl rfl rfl (by decide)) ?_;refine rC ?_;refine rQ (rem_nat (a := u) (b := 10) tab_ok rfl rfl rfl (by decide)) ?_
      refine rQ (add_int (m := ((u % 10 + 1 : Nat) : Int)) tab_ok rfl rfl hw1) ?_;refine rQ (str_mid (l := decD) (lo := u % 10) (hi := u % 10 + 1) tab_ok rfl rfl rfl rfl hle (by omega) hcut) ?_
      refine rC ?_;refine nQ ?_;refine sR ?_;iterate 2 refine rC ?_
      refine nS ?_;refine wT ?_;refine wc_region ?_;refine rC ?_;refine rQ (quo_nat (a := u) (b := 10) tab_ok rfl rfl rfl (by decide) hw2) ?_;refine rQ (call_r hrec rfl rfl (arg_e arg_nil) (.inl rfl) (fun _ => rfl)) ?_
      refine rC ?_;refine rQ (add_str (a := Lib.decDigits (u / 10)) (b := [UInt8.ofNat (48 + u % 10)]) rfl rfl hlen rfl) ?_;refine rC ?_;refine nR ?_;iterate 2 refine rC ?_
      refine nS ?_;refine wc_ret ?_
      exact ⟨trivial, [], lf⟩
    · have hd : decide (9 < (u : Int)) = false := decide_eq_false (by omega)
      rw [show Lib.decDigits u = [UInt8.ofNat (48 + u % 10)] by rw [Lib.decDigits, dif_pos (by omega), Nat.mod_eq_of_lt (by omega)]]
      refine sR ?_;refine rC ?_;refine nQ ?_;refine sR ?_;iterate 2 refine rC ?_
      refine nS ?_;refine wG ?_;refine kS ?_;refine qR ?_;iterate 2 refine rC ?_
      refine nS ?_;refine wG ?_;refine kS ?_;refine sR ?_;refine rC ?_;refine rQ (rem_nat (a := u) (b := 10) tab_ok rfl rfl rfl (by decide)) ?_;refine rC ?_;refine rQ (rem_nat (a := u) (b := 10) tab_ok rfl rfl rfl (by decide)) ?_
      refine rQ (add_int (m := ((u % 10 + 1 : Nat) : Int)) tab_ok rfl rfl hw1) ?_;refine rQ (str_mid (l := decD) (lo := u % 10) (hi := u % 10 + 1) tab_ok rfl rfl rfl rfl hle (by omega) hcut) ?_
      refine rC ?_;refine nQ ?_;refine sR ?_;iterate 2 refine rC ?_
      refine nS ?_;refine wF ?_;refine kS ?_;refine sR ?_;iterate 2 refine rC ?_
      refine nS ?_;refine wc_ret ?_
      exact ⟨trivial, [], lf⟩
theorem number_is (n : Int) (h0 : -9223372036854775808 ≤ n) (h1 : n ≤ 9223372036854775807) : FnIs Tryz.prog 51 [.int .i64 n] [] (.d (strD (Lib.itoa n))) [] := by
  by_cases hn : n < 0
  · by_cases hm : n = -9223372036854775808
    · subst hm
      rw [show Lib.itoa (-9223372036854775808) = [45, 57, 50, 50, 51, 51, 55, 50, 48, 51, 54, 56, 53, 52, 55, 55, 53, 56, 48, 56] by decide +kernel]
      refine fnIs_of tab_ok Tryz.func51 rfl rfl rfl ?_;refine sR ?_;refine rC ?_;refine nQ ?_;refine sR ?_;iterate 2 refine rC ?_
      refine nS ?_;refine wV ?_;refine sR ?_;refine rC ?_;refine nS ?_;refine wc_ret ?_;refine seq_r ?_
      exact ⟨trivial, [], lf⟩
    · have hmin : decide (n = -9223372036854775808) = false := decide_eq_false hm
      have hneg : decide (n < 0) = true := decide_eq_true hn
      have hrec := numN_is n.natAbs (by omega)
      have hlen : [(45 : UInt8)].length + (Lib.decDigits n.natAbs).length ≤ 9223372036854775807 := by
        have := dec_len (u := n.natAbs) (by omega)
        simp; omega
      have hwn : IntKind.i64.wrap (-n) = (n.natAbs : Int) := by rw [wrap_i64 (by omega) (by omega)]; omega
      rw [show Lib.itoa n = [45] ++ Lib.decDigits n.natAbs by rw [Lib.itoa, if_pos hn]; rfl]
      refine fnIs_of tab_ok Tryz.func51 rfl rfl rfl ?_;refine sR ?_;refine rC ?_;refine nQ ?_;refine sR ?_;iterate 2 refine rC ?_
      refine nS ?_;refine wF ?_;refine kS ?_;refine qR ?_;iterate 2 refine rC ?_
      refine nS ?_;refine wT ?_;refine sR ?_;refine rC ?_;refine rQ (step_C tab_ok (fun K hk => ⟨_, hwn, hk⟩)) ?_;refine rQ (call_r hrec rfl rfl (arg_e arg_nil) (.inl rfl) (fun _ => rfl)) ?_
      refine rQ (add_str (a := [45]) (b := Lib.decDigits n.natAbs) rfl rfl hlen rfl) ?_;refine rC ?_;refine nS ?_;refine wc_ret ?_;refine seq_r ?_
      exact ⟨trivial, [], lf⟩
  · have := numN_is n.toNat (by omega)
    rw [show ((n.toNat : Nat) : Int) = n by omega] at this
    rwa [show Lib.itoa n = Lib.decDigits n.toNat by rw [Lib.itoa, if_neg hn]]
end Go.Proofs.YtmojbghcngdkpaaGreatDoor

namespace Go.Proofs.YtmojbghcngdkpaaGreatDoor
open Go.Eng Go.Plain
set_option maxHeartbeats 4000000
set_option maxRecDepth 20000
attribute [local irreducible] WC RegS RegD SeqQ BlkQ ScoQ RegK CutK Sat SatN FnIs LoopQ StepIs OpIs
theorem hexD_cut {d : Nat} (h : d < 16) : (hexD.drop d).take (d + 1 - d) = [hexC d] := by
  have : ∀ d, d < 16 → (hexD.drop d).take (d + 1 - d) = [hexC d] := by decide
  exact this d h
theorem rhex_is (l : List UInt8) (hL : l.length ≤ 1000000000) : FnIs Tryz.prog 120 [.d (encB l)] [] (.d (strD (hexP l))) [] := by
  have hbl : (byI l).length = l.length := byI_len l
  refine fnIs_of tab_ok Tryz.func120 rfl rfl rfl ?_;refine sR ?_;refine rC ?_;refine nR ?_;refine rC ?_;refine nQ ?_;refine sR ?_;refine rC ?_;refine nS ?_;refine wc_block ?_
  refine wc_inv (fun i : Nat => ⟨[(4, .int .i64 i), (3, .d (strD ((l.take i).flatMap hexB))), (0, .d (encB l))], [], 72, Tryz.f120.ntmps, 64⟩) (fun i => i ≤ l.length) (fun i => l.length - i) 0 [] (Nat.zero_le _)
    (.of rfl rfl rfl rfl rfl ⟨⟨_, rfl, .refl _⟩, rfl, ⟨_, rfl, .refl _⟩, rfl, ⟨_, rfl, .refl _⟩, rfl, trivial⟩ trivial) ?_
  intro i hi
  refine wc_of ?_;refine qR ?_;iterate 2 refine rC ?_
  refine rQ iE ?_;refine rC ?_;refine nS ?_
  refine wc_cond rfl (fun h3 => ?_) (fun h3 => ?_)
  · have hlt : i < l.length := by have := of_decide_eq_true h3; omega
    obtain ⟨b, hb⟩ : ∃ b, l[i]? = some b := ⟨_, List.getElem?_eq_getElem hlt⟩
    have hb' : (byI l)[((i : Int)).toNat]? = some (b.toNat : Int) := by rw [Int.toNat_natCast]; exact byI_get hb
    have hb8 : b.toNat < 256 := b.toNat_lt
    have hw1 : IntKind.u8.wrap (((b.toNat / 16 : Nat) : Int) + 1) = ((b.toNat / 16 + 1 : Nat) : Int) := wrap_u8n (a := b.toNat / 16 + 1) (by omega)
    have hw2 : IntKind.u8.wrap (((b.toNat % 16 : Nat) : Int) + 1) = ((b.toNat % 16 + 1 : Nat) : Int) := wrap_u8n (a := b.toNat % 16 + 1) (by omega)
    have hle1 : b.toNat / 16 + 1 ≤ hexD.length := by show _ ≤ 16; omega
    have hle2 : b.toNat % 16 + 1 ≤ hexD.length := by show _ ≤ 16; omega
    have hcut1 := hexD_cut (d := b.toNat / 16) (by omega)
    have hcut2 := hexD_cut (d := b.toNat % 16) (by omega)
    have hpl : ((l.take i).flatMap hexB).length = 2 * i := by rw [hexB_len, List.length_take, Nat.min_eq_left hi]
    have hlen1 : ((l.take i).flatMap hexB).length + [hexC (b.toNat / 16)].length ≤ 9223372036854775807 := by rw [hpl]; simp; omega
    have hlen2 : ((l.take i).flatMap hexB ++ [hexC (b.toNat / 16)]).length + [hexC (b.toNat % 16)].length ≤ 9223372036854775807 := by rw [List.length_append, hpl]; simp; omega
    have hgo := hex_take hb
    refine kS ?_;refine wc_seq ?_;refine wc_block ?_;refine wc_seq ?_;refine wc_draw (by kernel_rfl) ?_;refine dC [0] [] ?_;refine dC [4] [] ?_;refine dQ [13, 14] [] iA ?_
    refine dQ [15] [] iL ?_;refine dQ [16] [] (shr_nat (a := b.toNat) (s := 4) (m := b.toNat / 16) rfl rfl (by decide) rfl) ?_;refine dC [0] [] ?_;refine dC [4] [] ?_
    refine dQ [18, 19] [] iA ?_;refine dQ [20] [] iL ?_;refine dQ [21] [] (and_nat (a := b.toNat) (b := 15) (m := b.toNat % 16) rfl rfl rfl hb8 (by decide) (Nat.and_two_pow_sub_one_eq_mod b.toNat 4)) ?_
    refine dC [17] [] ?_;refine dC [22] [] ?_;refine dreg_end (by kernel_rfl) ?_;refine seq_n ?_;refine wc_draw (by kernel_rfl) ?_;refine dC [3] [] ?_;iterate 2 refine dC [5] [] ?_
    refine dQ [25] [] (add_int (m := ((b.toNat / 16 + 1 : Nat) : Int)) tab_ok rfl rfl hw1) ?_;refine dQ [24, 26] [] (str_mid (l := hexD) (lo := b.toNat / 16) (hi := b.toNat / 16 + 1) tab_ok rfl rfl rfl rfl hle1 (by omega) hcut1) ?_
    refine dQ [23, 27] [] (add_str (a := (l.take i).flatMap hexB) (b := [hexC (b.toNat / 16)]) rfl rfl hlen1 rfl) ?_;iterate 2 refine dC [6] [] ?_
    refine dQ [30] [] (add_int (m := ((b.toNat % 16 + 1 : Nat) : Int)) tab_ok rfl rfl hw2) ?_;refine dQ [29, 31] [] (str_mid (l := hexD) (lo := b.toNat % 16) (hi := b.toNat % 16 + 1) tab_ok rfl rfl rfl rfl hle2 (by omega) hcut2) ?_
    refine dQ [28, 32] [] (add_str (a := (l.take i).flatMap hexB ++ [hexC (b.toNat / 16)]) (b := [hexC (b.toNat % 16)]) rfl rfl hlen2 rfl) ?_;refine dC [33] [] ?_;refine dreg_end (by kernel_rfl) ?_
    refine blk_n ?_;refine seq_n ?_;refine wc_region ?_;refine rC ?_;refine rQ iD ?_;refine rC ?_;refine reg_nil ?_
    exact loop_n (i + 1) [] hlt (by omega) (.of rfl rfl rfl rfl rfl ⟨⟨_, rfl, .refl _⟩, rfl, ⟨_, rfl, AVLe.of_eq (by rw [hgo]; rfl)⟩, rfl, ⟨_, rfl, .refl _⟩, rfl, trivial⟩ trivial)
  · have he : i = l.length := by have := of_decide_eq_false h3; omega
    subst he
    rw [List.take_length]
    by_cases hn : l = []
    · have hd : decide (l.flatMap hexB = []) = true := by rw [hn]; rfl
      rw [show hexP l = [45] from if_pos hn]
      refine wc_exit ?_;refine seq_x ?_;refine loop_x ?_;refine blk_x ?_;refine seq_n ?_;refine qR ?_;refine rC ?_;refine rQ (eql_s (a := l.flatMap hexB) (b := []) tab_ok rfl rfl rfl) ?_
      refine nS ?_;refine wT ?_;refine wc_region ?_;refine rC ?_;refine nR ?_;iterate 2 refine rC ?_
      refine nS ?_;refine wc_ret ?_
      exact ⟨trivial, [], lf⟩
    · have hd : decide (l.flatMap hexB = []) = false := decide_eq_false fun e => hn (by
        have := hexB_len l
        rw [e] at this
        exact List.eq_nil_of_length_eq_zero (by simp at this; omega))
      rw [show hexP l = l.flatMap hexB from if_neg hn]
      refine wc_exit ?_;refine seq_x ?_;refine loop_x ?_;refine blk_x ?_;refine seq_n ?_;refine qR ?_;refine rC ?_;refine rQ (eql_s (a := l.flatMap hexB) (b := []) tab_ok rfl rfl rfl) ?_
      refine nS ?_;refine wF ?_;refine kS ?_;refine sR ?_;iterate 2 refine rC ?_
      refine nS ?_;refine wc_ret ?_
      exact ⟨trivial, [], lf⟩
end Go.Proofs.YtmojbghcngdkpaaGreatDoor

namespace Go.Proofs.YtmojbghcngdkpaaGreatDoor
open Go.Eng Go.Plain
set_option maxHeartbeats 4000000
set_option maxRecDepth 20000
attribute [local irreducible] WC RegS RegD SeqQ BlkQ ScoQ RegK CutK Sat SatN FnIs LoopQ StepIs OpIs
theorem rline_read (o : POp) (hok : o.Ok) (hL : o.data.length ≤ 1000000000) (hk : o.kind = 1) (hd0 : o.data = []) : FnIs Tryz.prog 85 [.d (encPOp o)] [] (.d (strD (lineP o))) [] := by
  obtain ⟨⟨kk0, kk1⟩, h0, h1⟩ := hok
  have k0 : -9223372036854775808 ≤ o.kind := by omega
  have k1 : o.kind ≤ 9223372036854775807 := by omega
  have hwk : IntKind.i64.wrap o.kind = o.kind := wrap_i64 (by omega) (by omega)
  have l1 := itoa_len h0 h1
  have l2 := itoa_len k0 k1
  have l3 := hexP_len o.data
  have hk1 : decide (o.kind = 1) = true := decide_eq_true (by omega)
  have hd := len0_iff o.data true (decide_eq_true hd0)
  rw [show lineP o = sRead ++ [32] ++ Lib.itoa o.index by rw [lineP, if_pos ⟨hk, hd0⟩]; simp]
  refine fnIs_of tab_ok Tryz.func85 rfl rfl rfl ?_;refine sR ?_;refine rN ?_;refine rC ?_;refine nQ ?_;refine sR ?_;refine rC ?_;refine rQ iB ?_;iterate 2 refine rC ?_
  refine rO ?_;refine rC ?_;refine rO ?_;refine rQ iB ?_;refine rO ?_;refine rQ iE ?_;refine rO ?_;refine rC ?_;refine rQ iT ?_;refine nS ?_;refine wT ?_;refine sR ?_
  refine rC ?_;refine rQ iB ?_;refine rQ (call_r (number_is _ h0 h1) rfl rfl (arg_e arg_nil) (.inl rfl) (fun _ => rfl)) ?_
  refine rQ (add_str (a := sRead ++ [32]) (b := Lib.itoa o.index) rfl rfl (by simp [sRead]; omega) rfl) ?_
  refine rC ?_;refine nS ?_;refine wc_ret ?_;refine seq_r ?_
  exact ⟨trivial, [], lf⟩
theorem rline_write (o : POp) (hok : o.Ok) (hL : o.data.length ≤ 1000000000) (hk : o.kind = 2) : FnIs Tryz.prog 85 [.d (encPOp o)] [] (.d (strD (lineP o))) [] := by
  obtain ⟨⟨kk0, kk1⟩, h0, h1⟩ := hok
  have k0 : -9223372036854775808 ≤ o.kind := by omega
  have k1 : o.kind ≤ 9223372036854775807 := by omega
  have hwk : IntKind.i64.wrap o.kind = o.kind := wrap_i64 (by omega) (by omega)
  have l1 := itoa_len h0 h1
  have l2 := itoa_len k0 k1
  have l3 := hexP_len o.data
  have hk1 : decide (o.kind = 1) = false := decide_eq_false (by omega)
  have hk2 : decide (o.kind = 2) = true := decide_eq_true (by omega)
  rw [show lineP o = sWrite ++ [32] ++ Lib.itoa o.index ++ [32] ++ hexP o.data by rw [lineP, if_neg (fun h => by have := h.1; omega), if_pos hk]; simp]
  refine fnIs_of tab_ok Tryz.func85 rfl rfl rfl ?_;refine sR ?_;refine rN ?_;refine rC ?_;refine nQ ?_;refine sR ?_;refine rC ?_;refine rQ iB ?_;iterate 2 refine rC ?_
  iterate 4 refine rS ?_
  refine rQ iF ?_;refine nS ?_;refine wG ?_;refine kS ?_;refine qR ?_;refine rC ?_;refine rQ iB ?_;refine rC ?_;refine nS ?_;refine wT ?_;refine wc_seq ?_;refine wc_draw (by kernel_rfl) ?_
  refine dC [1] [64] ?_;refine dQ [19] [64] iB ?_;refine dQ [20] [] (call_r (number_is _ h0 h1) rfl rfl (arg_e arg_nil) (.inl rfl) (fun _ => rfl)) ?_
  refine dQ [21] [] (add_str (a := sWrite ++ [32]) (b := Lib.itoa o.index) rfl rfl (by simp [sWrite]; omega) rfl) ?_
  refine dQ [22] [] (add_str (a := sWrite ++ [32] ++ Lib.itoa o.index) (b := [32]) rfl rfl (by simp [sWrite]; omega) rfl) ?_
  refine dC [1] [64] ?_;refine dQ [24] [64] iB ?_;refine dQ [25] [] (call_r (rhex_is o.data hL) rfl rfl (arg_e arg_nil) (.inl rfl) (fun _ => rfl)) ?_
  refine dQ [23, 26] [] (add_str (a := sWrite ++ [32] ++ Lib.itoa o.index ++ [32]) (b := hexP o.data) rfl rfl (by simp [sWrite]; omega) rfl) ?_
  refine dC [27] [] ?_;refine dreg_end (by kernel_rfl) ?_;refine seq_n ?_;refine wc_ret ?_;refine seq_r ?_
  exact ⟨trivial, [], lf⟩
theorem rline_flush (o : POp) (hok : o.Ok) (hL : o.data.length ≤ 1000000000) (hk : o.kind = 3) (hi0 : o.index = 0) (hd0 : o.data = []) : FnIs Tryz.prog 85 [.d (encPOp o)] [] (.d (strD (lineP o))) [] := by
  obtain ⟨⟨kk0, kk1⟩, h0, h1⟩ := hok
  have k0 : -9223372036854775808 ≤ o.kind := by omega
  have k1 : o.kind ≤ 9223372036854775807 := by omega
  have hwk : IntKind.i64.wrap o.kind = o.kind := wrap_i64 (by omega) (by omega)
  have l1 := itoa_len h0 h1
  have l2 := itoa_len k0 k1
  have l3 := hexP_len o.data
  have hk1 : decide (o.kind = 1) = false := decide_eq_false (by omega)
  have hk2 : decide (o.kind = 2) = false := decide_eq_false (by omega)
  have hk3 : decide (o.kind = 3) = true := decide_eq_true (by omega)
  have hd := len0_iff o.data true (decide_eq_true hd0)
  have hi : decide (o.index = 0) = true := decide_eq_true hi0
  rw [show lineP o = sFlush by rw [lineP, if_neg (fun h => by have := h.1; omega), if_neg (by omega), if_pos ⟨hk, hi0, hd0⟩]]
  refine fnIs_of tab_ok Tryz.func85 rfl rfl rfl ?_;refine sR ?_;refine rN ?_;refine rC ?_;refine nQ ?_;refine sR ?_;refine rC ?_;refine rQ iB ?_;iterate 2 refine rC ?_
  iterate 4 refine rS ?_
  refine rQ iF ?_;refine nS ?_;refine wG ?_;refine kS ?_;refine qR ?_;refine rC ?_;refine rQ iB ?_;refine rC ?_;refine nS ?_;refine wF ?_;refine kS ?_;refine qR ?_
  refine rC ?_;refine rQ iB ?_;iterate 2 refine rC ?_
  refine rO ?_;refine rC ?_;refine rO ?_;refine rQ iB ?_;refine rO ?_;refine rC ?_;refine rQ iT ?_;refine rC ?_;refine rO ?_;refine rC ?_;refine rO ?_;refine rQ iB ?_
  refine rO ?_;refine rQ iE ?_;refine rO ?_;refine rC ?_;refine rQ iT ?_;refine nS ?_;refine wT ?_;refine sR ?_;refine rC ?_;refine nS ?_;refine wc_ret ?_;refine seq_r ?_
  exact ⟨trivial, [], lf⟩
theorem rline_op1 (o : POp) (hok : o.Ok) (hL : o.data.length ≤ 1000000000) (hk : o.kind = 1) (hd0 : ¬ o.data = []) : FnIs Tryz.prog 85 [.d (encPOp o)] [] (.d (strD (lineP o))) [] := by
  obtain ⟨⟨kk0, kk1⟩, h0, h1⟩ := hok
  have k0 : -9223372036854775808 ≤ o.kind := by omega
  have k1 : o.kind ≤ 9223372036854775807 := by omega
  have hwk : IntKind.i64.wrap o.kind = o.kind := wrap_i64 (by omega) (by omega)
  have l1 := itoa_len h0 h1
  have l2 := itoa_len k0 k1
  have l3 := hexP_len o.data
  have hk1 : decide (o.kind = 1) = true := decide_eq_true (by omega)
  have hk2 : decide (o.kind = 2) = false := decide_eq_false (by omega)
  have hk3 : decide (o.kind = 3) = false := decide_eq_false (by omega)
  have hd := len0_iff o.data false (decide_eq_false hd0)
  rw [show lineP o = sOp ++ [32] ++ Lib.itoa o.kind ++ [32] ++ Lib.itoa o.index ++ [32] ++ hexP o.data by rw [lineP, if_neg (fun h => hd0 h.2), if_neg (by omega), if_neg (fun h => by have := h.1; omega)]; simp]
  refine fnIs_of tab_ok Tryz.func85 rfl rfl rfl ?_;refine sR ?_;refine rN ?_;refine rC ?_;refine nQ ?_;refine sR ?_;refine rC ?_;refine rQ iB ?_;iterate 2 refine rC ?_
  refine rO ?_;refine rC ?_;refine rO ?_;refine rQ iB ?_;refine rO ?_;refine rQ iE ?_;refine rO ?_;refine rC ?_;refine rQ iT ?_;refine nS ?_;refine wF ?_;refine kS ?_
  refine qR ?_;refine rC ?_;refine rQ iB ?_;refine rC ?_;refine nS ?_;refine wF ?_;refine kS ?_;refine qR ?_;refine rC ?_;refine rQ iB ?_;iterate 2 refine rC ?_
  iterate 3 refine rS ?_
  refine rQ iF ?_;refine rC ?_;iterate 4 refine rT ?_
  refine rQ iG ?_;refine nS ?_;refine wG ?_;refine kS ?_;refine wc_seq ?_;refine wc_draw (by kernel_rfl) ?_;refine dC [1] [64] ?_;refine dQ [42] [64] iB ?_;refine dQ [43] [] (conv_int (m := o.kind) tab_ok rfl rfl rfl hwk) ?_
  refine dQ [44] [] (call_r (number_is _ k0 k1) rfl rfl (arg_e arg_nil) (.inl rfl) (fun _ => rfl)) ?_
  refine dQ [45] [] (add_str (a := sOp ++ [32]) (b := Lib.itoa o.kind) rfl rfl (by simp [sOp]; omega) rfl) ?_
  refine dQ [46] [] (add_str (a := sOp ++ [32] ++ Lib.itoa o.kind) (b := [32]) rfl rfl (by simp [sOp]; omega) rfl) ?_
  refine dC [1] [64] ?_;refine dQ [48] [64] iB ?_;refine dQ [49] [] (call_r (number_is _ h0 h1) rfl rfl (arg_e arg_nil) (.inl rfl) (fun _ => rfl)) ?_
  refine dQ [47, 50] [] (add_str (a := sOp ++ [32] ++ Lib.itoa o.kind ++ [32]) (b := Lib.itoa o.index) rfl rfl (by simp [sOp]; omega) rfl) ?_
  refine dQ [51] [] (add_str (a := sOp ++ [32] ++ Lib.itoa o.kind ++ [32] ++ Lib.itoa o.index) (b := [32]) rfl rfl (by simp [sOp]; omega) rfl) ?_
  refine dC [1] [64] ?_;refine dQ [53] [64] iB ?_;refine dQ [54] [] (call_r (rhex_is o.data hL) rfl rfl (arg_e arg_nil) (.inl rfl) (fun _ => rfl)) ?_
  refine dQ [52, 55] [] (add_str (a := sOp ++ [32] ++ Lib.itoa o.kind ++ [32] ++ Lib.itoa o.index ++ [32]) (b := hexP o.data) rfl rfl (by simp [sOp]; omega) rfl) ?_
  refine dC [56] [] ?_;refine dreg_end (by kernel_rfl) ?_;refine seq_n ?_;refine wc_ret ?_
  exact ⟨trivial, [], lf⟩
theorem rline_op2 (o : POp) (hok : o.Ok) (hL : o.data.length ≤ 1000000000) (hk1 : ¬ o.kind = 1) (hk2 : ¬ o.kind = 2) (hk3 : ¬ o.kind = 3) : FnIs Tryz.prog 85 [.d (encPOp o)] [] (.d (strD (lineP o))) [] := by
  obtain ⟨⟨kk0, kk1⟩, h0, h1⟩ := hok
  have k0 : -9223372036854775808 ≤ o.kind := by omega
  have k1 : o.kind ≤ 9223372036854775807 := by omega
  have hwk : IntKind.i64.wrap o.kind = o.kind := wrap_i64 (by omega) (by omega)
  have l1 := itoa_len h0 h1
  have l2 := itoa_len k0 k1
  have l3 := hexP_len o.data
  have hk1 : decide (o.kind = 1) = false := decide_eq_false (by omega)
  have hk2 : decide (o.kind = 2) = false := decide_eq_false (by omega)
  have hk3 : decide (o.kind = 3) = false := decide_eq_false (by omega)
  rw [show lineP o = sOp ++ [32] ++ Lib.itoa o.kind ++ [32] ++ Lib.itoa o.index ++ [32] ++ hexP o.data by rw [lineP, if_neg (fun h => by have := h.1; omega), if_neg (by omega), if_neg (fun h => by have := h.1; omega)]; simp]
  refine fnIs_of tab_ok Tryz.func85 rfl rfl rfl ?_;refine sR ?_;refine rN ?_;refine rC ?_;refine nQ ?_;refine sR ?_;refine rC ?_;refine rQ iB ?_;iterate 2 refine rC ?_
  iterate 4 refine rS ?_
  refine rQ iF ?_;refine nS ?_;refine wG ?_;refine kS ?_;refine qR ?_;refine rC ?_;refine rQ iB ?_;refine rC ?_;refine nS ?_;refine wF ?_;refine kS ?_;refine qR ?_
  refine rC ?_;refine rQ iB ?_;iterate 2 refine rC ?_
  iterate 3 refine rS ?_
  refine rQ iF ?_;refine rC ?_;iterate 4 refine rT ?_
  refine rQ iG ?_;refine nS ?_;refine wG ?_;refine kS ?_;refine wc_seq ?_;refine wc_draw (by kernel_rfl) ?_;refine dC [1] [64] ?_;refine dQ [42] [64] iB ?_;refine dQ [43] [] (conv_int (m := o.kind) tab_ok rfl rfl rfl hwk) ?_
  refine dQ [44] [] (call_r (number_is _ k0 k1) rfl rfl (arg_e arg_nil) (.inl rfl) (fun _ => rfl)) ?_
  refine dQ [45] [] (add_str (a := sOp ++ [32]) (b := Lib.itoa o.kind) rfl rfl (by simp [sOp]; omega) rfl) ?_
  refine dQ [46] [] (add_str (a := sOp ++ [32] ++ Lib.itoa o.kind) (b := [32]) rfl rfl (by simp [sOp]; omega) rfl) ?_
  refine dC [1] [64] ?_;refine dQ [48] [64] iB ?_;refine dQ [49] [] (call_r (number_is _ h0 h1) rfl rfl (arg_e arg_nil) (.inl rfl) (fun _ => rfl)) ?_
  refine dQ [47, 50] [] (add_str (a := sOp ++ [32] ++ Lib.itoa o.kind ++ [32]) (b := Lib.itoa o.index) rfl rfl (by simp [sOp]; omega) rfl) ?_
  refine dQ [51] [] (add_str (a := sOp ++ [32] ++ Lib.itoa o.kind ++ [32] ++ Lib.itoa o.index) (b := [32]) rfl rfl (by simp [sOp]; omega) rfl) ?_
  refine dC [1] [64] ?_;refine dQ [53] [64] iB ?_;refine dQ [54] [] (call_r (rhex_is o.data hL) rfl rfl (arg_e arg_nil) (.inl rfl) (fun _ => rfl)) ?_
  refine dQ [52, 55] [] (add_str (a := sOp ++ [32] ++ Lib.itoa o.kind ++ [32] ++ Lib.itoa o.index ++ [32]) (b := hexP o.data) rfl rfl (by simp [sOp]; omega) rfl) ?_
  refine dC [56] [] ?_;refine dreg_end (by kernel_rfl) ?_;refine seq_n ?_;refine wc_ret ?_
  exact ⟨trivial, [], lf⟩
theorem rline_op3 (o : POp) (hok : o.Ok) (hL : o.data.length ≤ 1000000000) (hk : o.kind = 3) (hi0 : ¬ o.index = 0) : FnIs Tryz.prog 85 [.d (encPOp o)] [] (.d (strD (lineP o))) [] := by
  obtain ⟨⟨kk0, kk1⟩, h0, h1⟩ := hok
  have k0 : -9223372036854775808 ≤ o.kind := by omega
  have k1 : o.kind ≤ 9223372036854775807 := by omega
  have hwk : IntKind.i64.wrap o.kind = o.kind := wrap_i64 (by omega) (by omega)
  have l1 := itoa_len h0 h1
  have l2 := itoa_len k0 k1
  have l3 := hexP_len o.data
  have hk1 : decide (o.kind = 1) = false := decide_eq_false (by omega)
  have hk2 : decide (o.kind = 2) = false := decide_eq_false (by omega)
  have hk3 : decide (o.kind = 3) = true := decide_eq_true (by omega)
  have hi : decide (o.index = 0) = false := decide_eq_false hi0
  rw [show lineP o = sOp ++ [32] ++ Lib.itoa o.kind ++ [32] ++ Lib.itoa o.index ++ [32] ++ hexP o.data by rw [lineP, if_neg (fun h => by have := h.1; omega), if_neg (by omega), if_neg (fun h => hi0 h.2.1)]; simp]
  refine fnIs_of tab_ok Tryz.func85 rfl rfl rfl ?_;refine sR ?_;refine rN ?_;refine rC ?_;refine nQ ?_;refine sR ?_;refine rC ?_;refine rQ iB ?_;iterate 2 refine rC ?_
  iterate 4 refine rS ?_
  refine rQ iF ?_;refine nS ?_;refine wG ?_;refine kS ?_;refine qR ?_;refine rC ?_;refine rQ iB ?_;refine rC ?_;refine nS ?_;refine wF ?_;refine kS ?_;refine qR ?_
  refine rC ?_;refine rQ iB ?_;iterate 2 refine rC ?_
  refine rO ?_;refine rC ?_;refine rO ?_;refine rQ iB ?_;refine rO ?_;refine rC ?_;refine rQ iT ?_;refine rC ?_;iterate 4 refine rS ?_
  refine rQ iF ?_;refine nS ?_;refine wG ?_;refine kS ?_;refine wc_seq ?_;refine wc_draw (by kernel_rfl) ?_;refine dC [1] [64] ?_;refine dQ [42] [64] iB ?_;refine dQ [43] [] (conv_int (m := o.kind) tab_ok rfl rfl rfl hwk) ?_
  refine dQ [44] [] (call_r (number_is _ k0 k1) rfl rfl (arg_e arg_nil) (.inl rfl) (fun _ => rfl)) ?_
  refine dQ [45] [] (add_str (a := sOp ++ [32]) (b := Lib.itoa o.kind) rfl rfl (by simp [sOp]; omega) rfl) ?_
  refine dQ [46] [] (add_str (a := sOp ++ [32] ++ Lib.itoa o.kind) (b := [32]) rfl rfl (by simp [sOp]; omega) rfl) ?_
  refine dC [1] [64] ?_;refine dQ [48] [64] iB ?_;refine dQ [49] [] (call_r (number_is _ h0 h1) rfl rfl (arg_e arg_nil) (.inl rfl) (fun _ => rfl)) ?_
  refine dQ [47, 50] [] (add_str (a := sOp ++ [32] ++ Lib.itoa o.kind ++ [32]) (b := Lib.itoa o.index) rfl rfl (by simp [sOp]; omega) rfl) ?_
  refine dQ [51] [] (add_str (a := sOp ++ [32] ++ Lib.itoa o.kind ++ [32] ++ Lib.itoa o.index) (b := [32]) rfl rfl (by simp [sOp]; omega) rfl) ?_
  refine dC [1] [64] ?_;refine dQ [53] [64] iB ?_;refine dQ [54] [] (call_r (rhex_is o.data hL) rfl rfl (arg_e arg_nil) (.inl rfl) (fun _ => rfl)) ?_
  refine dQ [52, 55] [] (add_str (a := sOp ++ [32] ++ Lib.itoa o.kind ++ [32] ++ Lib.itoa o.index ++ [32]) (b := hexP o.data) rfl rfl (by simp [sOp]; omega) rfl) ?_
  refine dC [56] [] ?_;refine dreg_end (by kernel_rfl) ?_;refine seq_n ?_;refine wc_ret ?_
  exact ⟨trivial, [], lf⟩
theorem rline_op4 (o : POp) (hok : o.Ok) (hL : o.data.length ≤ 1000000000) (hk : o.kind = 3) (hi0 : o.index = 0) (hd0 : ¬ o.data = []) : FnIs Tryz.prog 85 [.d (encPOp o)] [] (.d (strD (lineP o))) [] := by
  obtain ⟨⟨kk0, kk1⟩, h0, h1⟩ := hok
  have k0 : -9223372036854775808 ≤ o.kind := by omega
  have k1 : o.kind ≤ 9223372036854775807 := by omega
  have hwk : IntKind.i64.wrap o.kind = o.kind := wrap_i64 (by omega) (by omega)
  have l1 := itoa_len h0 h1
  have l2 := itoa_len k0 k1
  have l3 := hexP_len o.data
  have hk1 : decide (o.kind = 1) = false := decide_eq_false (by omega)
  have hk2 : decide (o.kind = 2) = false := decide_eq_false (by omega)
  have hk3 : decide (o.kind = 3) = true := decide_eq_true (by omega)
  have hi : decide (o.index = 0) = true := decide_eq_true hi0
  have hd := len0_iff o.data false (decide_eq_false hd0)
  rw [show lineP o = sOp ++ [32] ++ Lib.itoa o.kind ++ [32] ++ Lib.itoa o.index ++ [32] ++ hexP o.data by rw [lineP, if_neg (fun h => by have := h.1; omega), if_neg (by omega), if_neg (fun h => hd0 h.2.2)]; simp]
  refine fnIs_of tab_ok Tryz.func85 rfl rfl rfl ?_;refine sR ?_;refine rN ?_;refine rC ?_;refine nQ ?_;refine sR ?_;refine rC ?_;refine rQ iB ?_;iterate 2 refine rC ?_
  iterate 4 refine rS ?_
  refine rQ iF ?_;refine nS ?_;refine wG ?_;refine kS ?_;refine qR ?_;refine rC ?_;refine rQ iB ?_;refine rC ?_;refine nS ?_;refine wF ?_;refine kS ?_;refine qR ?_
  refine rC ?_;refine rQ iB ?_;iterate 2 refine rC ?_
  refine rO ?_;refine rC ?_;refine rO ?_;refine rQ iB ?_;refine rO ?_;refine rC ?_;refine rQ iT ?_;refine rC ?_;refine rO ?_;refine rC ?_;refine rO ?_;refine rQ iB ?_
  refine rO ?_;refine rQ iE ?_;refine rO ?_;refine rC ?_;refine rQ iT ?_;refine nS ?_;refine wF ?_;refine kS ?_;refine wc_seq ?_;refine wc_draw (by kernel_rfl) ?_
  refine dC [1] [64] ?_;refine dQ [42] [64] iB ?_;refine dQ [43] [] (conv_int (m := o.kind) tab_ok rfl rfl rfl hwk) ?_;refine dQ [44] [] (call_r (number_is _ k0 k1) rfl rfl (arg_e arg_nil) (.inl rfl) (fun _ => rfl)) ?_
  refine dQ [45] [] (add_str (a := sOp ++ [32]) (b := Lib.itoa o.kind) rfl rfl (by simp [sOp]; omega) rfl) ?_
  refine dQ [46] [] (add_str (a := sOp ++ [32] ++ Lib.itoa o.kind) (b := [32]) rfl rfl (by simp [sOp]; omega) rfl) ?_
  refine dC [1] [64] ?_;refine dQ [48] [64] iB ?_;refine dQ [49] [] (call_r (number_is _ h0 h1) rfl rfl (arg_e arg_nil) (.inl rfl) (fun _ => rfl)) ?_
  refine dQ [47, 50] [] (add_str (a := sOp ++ [32] ++ Lib.itoa o.kind ++ [32]) (b := Lib.itoa o.index) rfl rfl (by simp [sOp]; omega) rfl) ?_
  refine dQ [51] [] (add_str (a := sOp ++ [32] ++ Lib.itoa o.kind ++ [32] ++ Lib.itoa o.index) (b := [32]) rfl rfl (by simp [sOp]; omega) rfl) ?_
  refine dC [1] [64] ?_;refine dQ [53] [64] iB ?_;refine dQ [54] [] (call_r (rhex_is o.data hL) rfl rfl (arg_e arg_nil) (.inl rfl) (fun _ => rfl)) ?_
  refine dQ [52, 55] [] (add_str (a := sOp ++ [32] ++ Lib.itoa o.kind ++ [32] ++ Lib.itoa o.index ++ [32]) (b := hexP o.data) rfl rfl (by simp [sOp]; omega) rfl) ?_
  refine dC [56] [] ?_;refine dreg_end (by kernel_rfl) ?_;refine seq_n ?_;refine wc_ret ?_
  exact ⟨trivial, [], lf⟩
theorem rline_is (o : POp) (hok : o.Ok) (hL : o.data.length ≤ 1000000000) : FnIs Tryz.prog 85 [.d (encPOp o)] [] (.d (strD (lineP o))) [] := by
  by_cases k1 : o.kind = 1
  · by_cases hd : o.data = []
    · exact rline_read o hok hL k1 hd
    · exact rline_op1 o hok hL k1 hd
  by_cases k2 : o.kind = 2
  · exact rline_write o hok hL k2
  by_cases k3 : o.kind = 3
  · by_cases hi : o.index = 0
    · by_cases hd : o.data = []
      · exact rline_flush o hok hL k3 hi hd
      · exact rline_op4 o hok hL k3 hi hd
    · exact rline_op3 o hok hL k3 hi
  · exact rline_op2 o hok hL k1 k2 k3
end Go.Proofs.YtmojbghcngdkpaaGreatDoor

namespace Go.Proofs.YtmojbghcngdkpaaGreatDoor
open Go.Eng Go.Plain
set_option maxHeartbeats 4000000
set_option maxRecDepth 20000
attribute [local irreducible] WC RegS RegD SeqQ BlkQ ScoQ RegK CutK Sat SatN FnIs LoopQ StepIs OpIs
theorem rtext_is (l : List (List POp)) (hok : OkL l) (hL : l.length ≤ 1000000) (hP : ∀ p ∈ l, p.length ≤ 1000000 ∧ ∀ o ∈ p, o.data.length ≤ 1000000000) (hT : (textP l).length ≤ 1000000000000) : FnIs Tryz.prog 39 [.d (encPL l)] [] (.d (strD (textP l))) [] := by
  refine fnIs_of tab_ok Tryz.func39 rfl rfl rfl ?_;refine sR ?_;refine rC ?_;refine nR ?_;refine rC ?_;refine nQ ?_;refine sR ?_;refine rC ?_;refine nS ?_;refine wc_block ?_
  refine wc_inv (fun i : Nat => ⟨[(4, .int .i64 i), (3, .d (strD (textP (l.take i)))), (0, .d (encPL l))], [], 72, Tryz.f39.ntmps, 64⟩) (fun i => i ≤ l.length) (fun i => l.length - i) 0 [] (Nat.zero_le _)
    (.of rfl rfl rfl rfl rfl ⟨⟨_, rfl, .refl _⟩, rfl, ⟨_, rfl, .refl _⟩, rfl, ⟨_, rfl, .refl _⟩, rfl, trivial⟩ trivial) ?_
  intro i hi
  refine wc_of ?_;refine qR ?_;iterate 2 refine rC ?_
  refine rQ iE ?_;refine rC ?_;refine nS ?_
  refine wc_cond rfl (fun h3 => ?_) (fun h3 => ?_)
  · have hlt : i < l.length := by have := of_decide_eq_true h3; omega
    obtain ⟨p, hp⟩ : ∃ p, l[i]? = some p := ⟨_, List.getElem?_eq_getElem hlt⟩
    have hp' : l[((i : Int)).toNat]? = some p := by rw [Int.toNat_natCast]; exact hp
    have hpm := List.mem_of_getElem? hp
    have hpB := (hP p hpm).1
    have hz := partT_le (j := 0) hp
    have hpz := partT_zero l i p
    have hlc : (textP (l.take i)).length + (sClient ++ [10]).length ≤ 9223372036854775807 := by rw [hpz, List.length_append] at hz; omega
    refine kS ?_;refine wc_seq ?_;refine wc_block ?_;refine sR ?_;refine rC ?_;refine rQ (add_str (a := textP (l.take i)) (b := sClient ++ [10]) rfl rfl hlc rfl) ?_
    refine rC ?_;refine nR ?_;refine rC ?_;refine nS ?_;refine wc_block ?_
    refine wc_inv (fun j : Nat => ⟨[(5, .int .i64 j), (4, .int .i64 i), (3, .d (strD (partT l i p j))), (0, .d (encPL l))], [], 72, Tryz.f39.ntmps, 64⟩) (fun j => j ≤ p.length) (fun j => p.length - j) 0 [] (Nat.zero_le _)
      (.of rfl rfl rfl rfl rfl ⟨⟨_, rfl, .refl _⟩, rfl, ⟨_, rfl, .refl _⟩, rfl, ⟨_, rfl, AVLe.of_eq (by rw [hpz]; rfl)⟩, rfl, ⟨_, rfl, .refl _⟩, rfl, trivial⟩ trivial) ?_
    intro j hj
    refine wc_of ?_;refine qR ?_;iterate 3 refine rC ?_
    refine rQ iA ?_;refine rQ iL ?_;refine rQ iE ?_;refine rC ?_;refine nS ?_
    refine wc_cond rfl (fun h4 => ?_) (fun h4 => ?_)
    · have hjl : j < p.length := by have := of_decide_eq_true h4; omega
      obtain ⟨o, ho⟩ : ∃ o, p[j]? = some o := ⟨_, List.getElem?_eq_getElem hjl⟩
      have ho' : p[((j : Int)).toNat]? = some o := by rw [Int.toNat_natCast]; exact ho
      have hom := List.mem_of_getElem? ho
      have hline := rline_is o (hok p hpm o hom) ((hP p hpm).2 o hom)
      have hgo := partT_go (l := l) (i := i) ho
      have hpl := partT_le (j := j + 1) hp
      rw [← hgo, List.length_append, List.length_append] at hpl
      have hl1 : (partT l i p j).length + (lineP o).length ≤ 9223372036854775807 := by omega
      have hl2 : (partT l i p j ++ lineP o).length + [(10 : UInt8)].length ≤ 9223372036854775807 := by rw [List.length_append]; omega
      have hs : partT l i p (j + 1) = partT l i p j ++ lineP o ++ [10] := by rw [← hgo, List.append_assoc]
      refine kS ?_;refine wc_seq ?_;refine wc_block ?_;refine wc_region ?_;iterate 3 refine rC ?_
      refine rQ iA ?_;refine rQ iL ?_;refine rC ?_;refine rQ iA ?_;refine rQ iL ?_;refine rQ (call_r hline rfl rfl (arg_e arg_nil) (.inl rfl) (fun _ => rfl)) ?_;refine rQ (add_str (a := partT l i p j) (b := lineP o) rfl rfl hl1 rfl) ?_
      refine rQ (add_str (a := partT l i p j ++ lineP o) (b := [10]) rfl rfl hl2 rfl) ?_;refine rC ?_;refine reg_nil ?_;refine blk_n ?_;refine seq_n ?_;refine wc_region ?_
      refine rC ?_;refine rQ iD ?_;refine rC ?_;refine reg_nil ?_
      exact loop_n (j + 1) [] hjl (by omega) (.of rfl rfl rfl rfl rfl ⟨⟨_, rfl, .refl _⟩, rfl, ⟨_, rfl, .refl _⟩, rfl, ⟨_, rfl, AVLe.of_eq (by rw [hs]; rfl)⟩, rfl, ⟨_, rfl, .refl _⟩, rfl, trivial⟩ trivial)
    · have he : j = p.length := by have := of_decide_eq_false h4; omega
      subst he
      refine wc_exit ?_;refine seq_x ?_;refine loop_x ?_;refine blk_x ?_;refine blk_n ?_;refine seq_n ?_;refine wc_region ?_;refine rC ?_;refine rQ iD ?_;refine rC ?_
      refine reg_nil ?_
      exact loop_n (i + 1) [] hlt (by omega) (.of rfl rfl rfl rfl rfl ⟨⟨_, rfl, .refl _⟩, rfl, ⟨_, rfl, AVLe.of_eq (by rw [partT_end hp]; rfl)⟩, rfl, ⟨_, rfl, .refl _⟩, rfl, trivial⟩ trivial)
  · have he : i = l.length := by have := of_decide_eq_false h3; omega
    subst he
    rw [List.take_length]
    refine wc_exit ?_;refine seq_x ?_;refine loop_x ?_;refine blk_x ?_;refine seq_n ?_;refine sR ?_;iterate 2 refine rC ?_
    refine nS ?_;refine wc_ret ?_
    exact ⟨trivial, [], lf⟩
end Go.Proofs.YtmojbghcngdkpaaGreatDoor

namespace Go.Plain
open Go.Eng Go.Lib
theorem splitL_snoc (c b : UInt8) : ∀ (l : List UInt8), ∃ ws w, splitL l c = ws ++ [w] ∧ splitL (l ++ [b]) c = if b = c then ws ++ [w] ++ [[]] else ws ++ [w ++ [b]]
  | [] => ⟨[], [], rfl, by
      simp only [List.nil_append, splitL]
      split <;> rfl⟩
  | a :: l => by
    obtain ⟨ws, w, h1, h2⟩ := splitL_snoc c b l
    by_cases ha : a = c
    · refine ⟨[] :: ws, w, by rw [splitL, if_pos ha, h1]; rfl, ?_⟩
      rw [List.cons_append, splitL, if_pos ha, h2]
      split <;> rfl
    · cases ws with
      | nil =>
        refine ⟨[], a :: w, by rw [splitL, if_neg ha, h1]; rfl, ?_⟩
        rw [List.cons_append, splitL, if_neg ha, h2]
        by_cases hb : b = c
        · simp only [if_pos hb]; rfl
        · simp only [if_neg hb]; rfl
      | cons v ws =>
        refine ⟨(a :: v) :: ws, w, by rw [splitL, if_neg ha, h1]; rfl, ?_⟩
        rw [List.cons_append, splitL, if_neg ha, h2]
        by_cases hb : b = c
        · simp only [if_pos hb]; rfl
        · simp only [if_neg hb]; rfl
end Go.Plain

namespace Go.Proofs.YtmojbghcngdkpaaGreatDoor
open Go.Eng Go.Plain
set_option maxHeartbeats 4000000
set_option maxRecDepth 20000
attribute [local irreducible] WC RegS RegD SeqQ BlkQ ScoQ RegK CutK Sat SatN FnIs LoopQ StepIs OpIs
theorem row_ex {t : TypeId} {s : Nat} {ex : Bool} {α : Type} {enc : α → D} {xs : List α} : RowLe (.ds t s ex enc xs) (.ds t s false enc xs) := by
  intro σ w X r h
  rcases h with h | ⟨b, c, cur, h1, _, h3⟩
  · exact .inl h
  · exact .inr ⟨b, c, cur, h1, (fun h => by cases h), h3⟩
theorem row_first {ex : Bool} : RowLe (.lits 9 1 1 ex (.acons (.d (strD [])) .anil)) (rowS [[]]) := fun σ w X r h => row_ex σ w X r (RowLe.lits_ds (xs := [[]]) (enc := strD) (fun _ => rfl) rfl σ w X r h)
theorem rcut_own (s : List UInt8) (c : UInt8) (hs : s.length ≤ 1048575) : FnIs Tryz.prog 69 [.d (strD s), .int .u8 c.toNat] [] (.own 64 0 (splitL s c).length 1 none) [(64, rowS (splitL s c))] := by
  refine fnIs_of tab_ok Tryz.func69 rfl rfl rfl ?_;refine sR ?_;refine rC ?_;refine nR ?_;refine reg_new (build_slice (s := 1) tab_ok rfl rfl rfl rfl rfl rfl rfl rfl) rfl ?_
  refine rC ?_;refine nQ ?_;refine sR ?_;refine rC ?_;refine nS ?_;refine wc_block ?_
  refine wc_inv (fun i : Nat => ⟨[(6, .int .i64 i), (5, .own 65 0 (splitL (s.take i) c).length 1 none), (1, .int .u8 c.toNat), (0, .d (strD s))], [(65, some (rowS (splitL (s.take i) c)))], 72, Tryz.f69.ntmps, 64⟩) (fun i => i ≤ s.length) (fun i => s.length - i) 0 [(65, some 72)] (Nat.zero_le _)
    (.of rfl rfl rfl rfl rfl ⟨⟨_, rfl, .refl _⟩, rfl, ⟨_, rfl, .refl _⟩, rfl, ⟨_, rfl, .refl _⟩, rfl, ⟨_, rfl, .refl _⟩, rfl, trivial⟩ ⟨⟨rfl, rfl, _, rfl, row_first⟩, trivial⟩) ?_
  intro i hi
  refine wc_of ?_;refine qR ?_;iterate 2 refine rC ?_
  refine rQ (len_s tab_ok rfl rfl) ?_;refine rC ?_;refine nS ?_
  refine wc_cond rfl (fun h3 => ?_) (fun h3 => ?_)
  · have hlt : i < s.length := by have := of_decide_eq_true h3; omega
    obtain ⟨b, hb⟩ : ∃ b, s[i]? = some b := ⟨_, List.getElem?_eq_getElem hlt⟩
    obtain ⟨ws, w, h1, h2⟩ := splitL_snoc c b (s.take i)
    have ht : s.take (i + 1) = s.take i ++ [b] := by rw [List.take_add_one, hb]; rfl
    rw [← ht] at h2
    have hsl := splitL_len (s.take i) c
    rw [h1, List.length_take] at hsl
    rw [h1]
    by_cases hbc : b = c
    · have hd : decide ((b.toNat : Int) = (c.toNat : Int)) = true := decide_eq_true (by rw [hbc])
      rw [if_pos hbc] at h2
      have hL : (ws ++ [w]).length = (ws ++ [w]).length := rfl
      have hlen : (ws ++ [w]).length + [([] : List UInt8)].length ≤ 1048576 := by simp only [List.length_cons, List.length_nil]; omega
      have hlq : (splitL (s.take (i + 1)) c).length = (ws ++ [w]).length + [([] : List UInt8)].length := by rw [h2, List.length_append]
      refine kS ?_;refine wc_seq ?_;refine wc_block ?_;refine qR ?_;iterate 2 refine rC ?_
      refine rQ (index_s (l := s) (m := i) tab_ok rfl rfl rfl hb) ?_;iterate 2 refine rC ?_
      refine nS ?_;refine wT ?_;refine sR ?_;refine rC ?_;refine reg_new (build_slice (s := 1) tab_ok rfl rfl rfl rfl rfl rfl rfl rfl) rfl ?_;refine reg_new2 (append_litsL (α := List UInt8) (s := 1) (enc := strD) (xs := ws ++ [w]) tab_ok [[]] rfl rfl rfl rfl rfl hL rfl rfl rfl rfl (fun _ _ => rfl) (by decide) hlen rfl) rfl ?_
      refine rC ?_;refine nS ?_;refine wc_exit ?_;refine seq_x ?_;refine blk_x ?_;refine seq_n ?_;refine wc_region ?_;refine rC ?_;refine rQ iD ?_;refine rC ?_;refine reg_nil ?_
      exact loop_n (i + 1) [(65, some 160)] hlt (by omega) (.of rfl rfl rfl rfl rfl ⟨⟨_, rfl, .refl _⟩, rfl, ⟨_, rfl, AVLe.of_eq (by rw [hlq]; rfl)⟩, rfl, ⟨_, rfl, .refl _⟩, rfl, ⟨_, rfl, .refl _⟩, rfl, trivial⟩ ⟨⟨rfl, rfl, _, rfl, RowLe.of_eq (by rw [h2]; rfl)⟩, trivial⟩)
    · have hne : ¬ ((b.toNat : Int) = (c.toNat : Int)) := fun e => hbc (UInt8.toNat_inj.1 (by omega))
      have hd : decide ((b.toNat : Int) = (c.toNat : Int)) = false := decide_eq_false hne
      rw [if_neg hbc] at h2
      have hwl : (ws ++ [w]).length = ws.length + 1 := by simp
      have hwm : IntKind.i64.wrap ((((ws ++ [w]).length : Nat) : Int) - 1) = (ws.length : Int) := by rw [hwl, wrap_i64 (by omega) (by omega)]; omega
      have hgw : (ws ++ [w])[((ws.length : Int)).toNat]? = some w := by rw [Int.toNat_natCast]; simp
      have hi1 : i + 1 ≤ s.length := hlt
      have hcut : (s.drop i).take (i + 1 - i) = [b] := by
        rw [List.drop_eq_getElem_cons hlt, show i + 1 - i = 1 by omega]
        have : s[i] = b := (List.getElem?_eq_some_iff.1 hb).2
        simp [this]
      have hwle : w.length ≤ s.length := by
        have := split_mem_le (s.take i) c w (by rw [h1]; simp)
        rw [List.length_take] at this
        omega
      have hladd : w.length + [b].length ≤ 9223372036854775807 := by simp; omega
      have hset : (ws ++ [w]).set (((ws.length : Int)).toNat) (w ++ [b]) = ws ++ [w ++ [b]] := by rw [Int.toNat_natCast, List.set_append_right _ _ (Nat.le_refl _)]; simp
      have hlq : (splitL (s.take (i + 1)) c).length = (ws ++ [w]).length := by rw [h2]; simp
      refine kS ?_;refine wc_seq ?_;refine wc_block ?_;refine qR ?_;iterate 2 refine rC ?_
      refine rQ (index_s (l := s) (m := i) tab_ok rfl rfl rfl hb) ?_;iterate 2 refine rC ?_
      refine nS ?_;refine wF ?_;refine kS ?_;refine wc_draw (by kernel_rfl) ?_;iterate 2 refine dC [5] [65] ?_
      refine dQ [23] [65] (len_own tab_ok rfl rfl) ?_;refine dQ [24] [] (sub_int (m := (ws.length : Int)) tab_ok rfl rfl hwm) ?_;iterate 2 refine dC [5] [65] ?_
      refine dQ [27] [65] (len_own tab_ok rfl rfl) ?_;refine dQ [28] [] (sub_int (m := (ws.length : Int)) tab_ok rfl rfl hwm) ?_;refine dQ [26, 29] [65] (index_own tab_ok rfl rfl rfl rfl rfl (by omega) (by omega)) ?_
      refine dQ [30] [65] (load_row tab_ok rfl rfl ⟨rfl, w, hgw, _, rfl, rfl⟩ rfl) ?_;refine dC [0] [] ?_;iterate 2 refine dC [6] [] ?_
      refine dQ [34] [] iD ?_;refine dQ [32, 33, 35] [] (str_mid (l := s) (lo := i) (hi := i + 1) tab_ok rfl rfl rfl rfl hi1 (by omega) hcut) ?_;refine dQ [31, 36] [] (add_str (a := w) (b := [b]) rfl rfl hladd rfl) ?_
      refine dQ [22, 25] [65] (index_own tab_ok rfl rfl rfl rfl rfl (by omega) (by omega)) ?_;refine dreg_s [38, 37] [65] (store_row tab_ok rfl rfl rfl ⟨rfl, w, w ++ [b], hgw, ⟨rfl, rfl, rfl⟩, rfl⟩ rfl) ?_
      refine dreg_end (by kernel_rfl) ?_;refine blk_n ?_;refine seq_n ?_;refine wc_region ?_;refine rC ?_;refine rQ iD ?_;refine rC ?_;refine reg_nil ?_
      exact loop_n (i + 1) [] hlt (by omega) (.of rfl rfl rfl rfl rfl ⟨⟨_, rfl, .refl _⟩, rfl, ⟨_, rfl, AVLe.of_eq (by rw [hlq]; rfl)⟩, rfl, ⟨_, rfl, .refl _⟩, rfl, ⟨_, rfl, .refl _⟩, rfl, trivial⟩ ⟨⟨rfl, rfl, _, rfl, RowLe.of_eq (by rw [h2, ← hset]; rfl)⟩, trivial⟩)
  · have he : i = s.length := by have := of_decide_eq_false h3; omega
    subst he
    rw [List.take_length]
    refine wc_exit ?_;refine seq_x ?_;refine loop_x ?_;refine blk_x ?_;refine seq_n ?_;refine sR ?_;iterate 2 refine rC ?_
    refine nS ?_;refine wc_ret ?_
    exact ⟨trivial, [(64, some 65)], .of rfl rfl rfl rfl rfl ⟨⟨_, rfl, AVLe.of_eq rfl⟩, rfl, trivial⟩ ⟨⟨rfl, rfl, _, rfl, .refl _⟩, trivial⟩⟩
theorem rcut_is (s : List UInt8) (c : UInt8) (hs : s.length ≤ 1048575) : FnIs Tryz.prog 69 [.d (strD s), .int .u8 c.toNat] [] (.d (.arr 1 strD (splitL s c))) [] :=
  (rcut_own s c hs).freeze_out 64 _ rfl (Frz.own rfl) trivial
end Go.Proofs.YtmojbghcngdkpaaGreatDoor

namespace Go.Proofs.YtmojbghcngdkpaaGreatDoor
open Go.Eng Go.Plain
set_option maxHeartbeats 4000000
set_option maxRecDepth 20000
attribute [local irreducible] WC RegS RegD SeqQ BlkQ ScoQ RegK CutK Sat SatN FnIs LoopQ StepIs OpIs
def o1 {α : Type} (o : Option α) : Int := match o with
  | some _ => 1
  | none => 0
abbrev intRes (o : Option Int) : AV := .tup (.acons (.int .i64 (o.getD 0)) (.acons (.int .i64 (o1 o)) .anil))
theorem rint_is (s : List UInt8) (hl : s.length ≤ 1048576) : FnIs Tryz.prog 112 [.d (strD s)] [] (intRes (intR s)) [] := by
  obtain ⟨sg, hsg⟩ : ∃ sg, sgOf s = sg := ⟨_, rfl⟩
  obtain ⟨dg, hdg⟩ : ∃ dg, digOf s = dg := ⟨_, rfl⟩
  have hV : intV s = dg.foldl (intStep sg) 0 := by rw [intV, hdg, hsg]
  have hdl : dg.length ≤ s.length := by
    rw [← hdg, digOf]
    split <;> simp
  have hR : intR s = if 19 < dg.length then none else if dg.all isDig = false then none else if Lib.itoa (intV s) = s then some (intV s) else none := by rw [intR, hdg]
  by_cases hm : s.head? = some 45
  · obtain ⟨b, hb, hb45⟩ : ∃ b, s[0]? = some b ∧ b = 45 := by
      cases s with
      | nil => simp at hm
      | cons a t => exact ⟨a, rfl, by simpa using hm⟩
    have hpos : 0 < s.length := (List.getElem?_eq_some_iff.1 hb).1
    have hs1 : 1 ≤ s.length := hpos
    have hd0 : decide (0 < (s.length : Int)) = true := decide_eq_true (by omega)
    have hd1 : decide ((b.toNat : Int) = 45) = true := by rw [hb45]; rfl
    have hdrop : s.drop 1 = dg := by rw [← hdg, digOf, if_pos hm]; cases s <;> rfl
    have hsgv : sg = -1 := by rw [← hsg, sgOf, if_pos hm]
    subst hsgv
    clear hm hdg hsg hb45
    refine fnIs_of tab_ok Tryz.func112 rfl rfl rfl ?_
    by_cases h19 : 19 < dg.length
    · have hd19 : decide (19 < (dg.length : Int)) = true := decide_eq_true (by omega)
      have hRn : intR s = none := by rw [hR, if_pos h19]
      rw [hRn]
      refine sR ?_;iterate 2 refine rC ?_
      refine nR ?_;refine rC ?_;refine nR ?_;refine rC ?_;refine nR ?_;iterate 2 refine rC ?_
      refine nQ ?_;refine sR ?_;refine rC ?_;refine rQ (len_s tab_ok rfl rfl) ?_;iterate 2 refine rC ?_
      refine rO ?_;refine rC ?_;refine rO ?_;refine rQ (index_s (l := s) (m := 0) tab_ok rfl rfl rfl hb) ?_;refine rO ?_;refine rC ?_;refine rQ iT ?_;refine nS ?_;refine wT ?_
      refine sR ?_;refine rC ?_;refine nS ?_;refine wc_region ?_;refine rC ?_;refine rQ (str_from (l := s) (lo := 1) (m := dg) tab_ok rfl rfl rfl hs1 hdrop) ?_;refine rC ?_
      refine nQ ?_;refine sR ?_;refine rC ?_;refine rQ (len_s tab_ok rfl rfl) ?_;refine rC ?_;refine nS ?_;refine wT ?_;refine sR ?_;iterate 2 refine rC ?_
      refine nS ?_;refine wc_ret ?_;refine seq_r ?_
      exact ⟨trivial, [], lf⟩
    · have hd19 : decide (19 < (dg.length : Int)) = false := decide_eq_false (by omega)
      rw [if_neg h19] at hR
      refine sR ?_;iterate 2 refine rC ?_
      refine nR ?_;refine rC ?_;refine nR ?_;refine rC ?_;refine nR ?_;iterate 2 refine rC ?_
      refine nQ ?_;refine sR ?_;refine rC ?_;refine rQ (len_s tab_ok rfl rfl) ?_;iterate 2 refine rC ?_
      refine rO ?_;refine rC ?_;refine rO ?_;refine rQ (index_s (l := s) (m := 0) tab_ok rfl rfl rfl hb) ?_;refine rO ?_;refine rC ?_;refine rQ iT ?_;refine nS ?_;refine wT ?_
      refine sR ?_;refine rC ?_;refine nS ?_;refine wc_region ?_;refine rC ?_;refine rQ (str_from (l := s) (lo := 1) (m := dg) tab_ok rfl rfl rfl hs1 hdrop) ?_;refine rC ?_
      refine nQ ?_;refine sR ?_;refine rC ?_;refine rQ (len_s tab_ok rfl rfl) ?_;refine rC ?_;refine nS ?_;refine wF ?_;refine kS ?_;refine qR ?_;refine rC ?_;refine nS ?_
      refine wc_block ?_
      refine wc_inv (fun i : Nat => ⟨[(7, .int .i64 i), (6, .d (strD dg)), (5, .int .i64 (-1)), (4, .int .i64 ((dg.take i).foldl (intStep (-1)) 0)), (0, .d (strD s))], [], 72, Tryz.f112.ntmps, 64⟩) (fun i => i ≤ dg.length ∧ (dg.take i).all isDig = true) (fun i => dg.length - i) 0 [] ⟨Nat.zero_le _, by simp⟩
        (.of rfl rfl rfl rfl rfl ⟨⟨_, rfl, .refl _⟩, rfl, ⟨_, rfl, .refl _⟩, rfl, ⟨_, rfl, .refl _⟩, rfl, ⟨_, rfl, .refl _⟩, rfl, ⟨_, rfl, .refl _⟩, rfl, trivial⟩ trivial) ?_
      intro i hi
      obtain ⟨hi, hall⟩ := hi
      refine wc_of ?_;refine qR ?_;iterate 2 refine rC ?_
      refine rQ (len_s tab_ok rfl rfl) ?_;refine rC ?_;refine nS ?_
      refine wc_cond rfl (fun h3 => ?_) (fun h3 => ?_)
      · have hlt : i < dg.length := by have := of_decide_eq_true h3; omega
        obtain ⟨c, hc⟩ : ∃ c, dg[i]? = some c := ⟨_, List.getElem?_eq_getElem hlt⟩
        have hcb := c.toNat_lt
        have hw32 : IntKind.i64.wrap (c.toNat : Int) = (c.toNat : Int) := wrap_i64 (by omega) (by omega)
        have hw33 : IntKind.i64.wrap ((c.toNat : Int) - 48) = (c.toNat : Int) - 48 := wrap_i64 (by omega) (by omega)
        have htk : dg.take (i + 1) = dg.take i ++ [c] := by rw [List.take_add_one, hc]; rfl
        by_cases k1 : c.toNat < 48
        · have e1 : decide ((c.toNat : Int) - 48 < 0) = true := decide_eq_true (by omega)
          have hRn : intR s = none := by
            rw [hR, if_pos]
            rw [List.all_eq_false]
            exact ⟨c, List.mem_of_getElem? hc, by simp [isDig]; omega⟩
          rw [hRn]
          refine kS ?_;refine wc_seq ?_;refine wc_block ?_;refine sR ?_;iterate 2 refine rC ?_
          refine rQ (index_s (l := dg) (m := i) tab_ok rfl rfl rfl hc) ?_;refine rQ (conv_int (m := (c.toNat : Int)) tab_ok rfl rfl rfl hw32) ?_;refine rQ (sub_int tab_ok rfl rfl hw33) ?_
          refine rC ?_;refine nQ ?_;refine sR ?_;iterate 3 refine rC ?_
          iterate 2 refine rS ?_
          refine rQ iT ?_;refine nS ?_;refine wV ?_;refine sR ?_;iterate 2 refine rC ?_
          refine nS ?_;refine wc_ret ?_;refine seq_r ?_;refine blk_r ?_;refine seq_r ?_;refine loop_r ?_;refine blk_r ?_;refine seq_r ?_
          exact ⟨trivial, [], lf⟩
        · have e1 : decide ((c.toNat : Int) - 48 < 0) = false := decide_eq_false (by omega)
          by_cases k2 : 57 < c.toNat
          · have e2 : decide (9 < (c.toNat : Int) - 48) = true := decide_eq_true (by omega)
            have hRn : intR s = none := by
              rw [hR, if_pos]
              rw [List.all_eq_false]
              exact ⟨c, List.mem_of_getElem? hc, by simp [isDig]; omega⟩
            rw [hRn]
            refine kS ?_;refine wc_seq ?_;refine wc_block ?_;refine sR ?_;iterate 2 refine rC ?_
            refine rQ (index_s (l := dg) (m := i) tab_ok rfl rfl rfl hc) ?_;refine rQ (conv_int (m := (c.toNat : Int)) tab_ok rfl rfl rfl hw32) ?_;refine rQ (sub_int tab_ok rfl rfl hw33) ?_
            refine rC ?_;refine nQ ?_;refine sR ?_;iterate 3 refine rC ?_
            refine rO ?_;refine rC ?_;refine rO ?_;refine rC ?_;refine rQ iF ?_;refine nS ?_;refine wT ?_;refine sR ?_;iterate 2 refine rC ?_
            refine nS ?_;refine wc_ret ?_;refine seq_r ?_;refine blk_r ?_;refine seq_r ?_;refine loop_r ?_;refine blk_r ?_;refine seq_r ?_
            exact ⟨trivial, [], lf⟩
          · have e2 : decide (9 < (c.toNat : Int) - 48) = false := decide_eq_false (by omega)
            have hst : (dg.take (i + 1)).foldl (intStep (-1)) 0 = intStep (-1) ((dg.take i).foldl (intStep (-1)) 0) c := by rw [htk, List.foldl_append]; rfl
            refine kS ?_;refine wc_seq ?_;refine wc_block ?_;refine sR ?_;iterate 2 refine rC ?_
            refine rQ (index_s (l := dg) (m := i) tab_ok rfl rfl rfl hc) ?_;refine rQ (conv_int (m := (c.toNat : Int)) tab_ok rfl rfl rfl hw32) ?_;refine rQ (sub_int tab_ok rfl rfl hw33) ?_
            refine rC ?_;refine nQ ?_;refine sR ?_;iterate 3 refine rC ?_
            refine rO ?_;refine rC ?_;refine rO ?_;refine rC ?_;refine rQ iF ?_;refine nS ?_;refine wF ?_;refine kS ?_;refine wc_region ?_;refine rC ?_;refine rQ (mul_int tab_ok rfl rfl rfl) ?_
            iterate 2 refine rC ?_
            refine rQ (mul_int tab_ok rfl rfl rfl) ?_;refine rQ (add_int tab_ok rfl rfl rfl) ?_;refine rC ?_;refine reg_nil ?_;refine blk_n ?_;refine seq_n ?_;refine wc_region ?_
            refine rC ?_;refine rQ iD ?_;refine rC ?_;refine reg_nil ?_
            exact loop_n (i + 1) [] ⟨hlt, by rw [htk, List.all_append, hall]; simp [isDig]; omega⟩ (by omega) (.of rfl rfl rfl rfl rfl ⟨⟨_, rfl, .refl _⟩, rfl, ⟨_, rfl, .refl _⟩, rfl, ⟨_, rfl, .refl _⟩, rfl, ⟨_, rfl, AVLe.of_eq (by rw [hst]; rfl)⟩, rfl, ⟨_, rfl, .refl _⟩, rfl, trivial⟩ trivial)
      · have he : i = dg.length := by have := of_decide_eq_false h3; omega
        subst he
        rw [List.take_length] at hall ⊢
        rw [if_neg (by rw [hall]; decide)] at hR
        rw [← hV]
        obtain ⟨hn0, hn1⟩ : -9223372036854775808 ≤ intV s ∧ intV s ≤ 9223372036854775807 := by rw [hV]; exact fold_in _ _ _ ⟨by decide, by decide⟩
        by_cases hq : Lib.itoa (intV s) = s
        · have e3 : (!decide (Lib.itoa (intV s) = s)) = false := by rw [decide_eq_true hq]; rfl
          rw [if_pos hq] at hR
          rw [hR]
          refine wc_exit ?_;refine seq_x ?_;refine loop_x ?_;refine blk_x ?_;refine seq_n ?_;refine qR ?_;refine rC ?_;refine rQ (call_r (number_is _ hn0 hn1) rfl rfl (arg_e arg_nil) (.inl rfl) (fun _ => rfl)) ?_
          refine rC ?_;refine rQ (neq_s (a := Lib.itoa (intV s)) (b := s) tab_ok rfl rfl rfl) ?_;refine nS ?_;refine wF ?_;refine kS ?_;refine sR ?_;iterate 3 refine rC ?_
          refine nS ?_;refine wc_ret ?_
          exact ⟨trivial, [], lf⟩
        · have e3 : (!decide (Lib.itoa (intV s) = s)) = true := by rw [decide_eq_false hq]; rfl
          rw [if_neg hq] at hR
          rw [hR]
          refine wc_exit ?_;refine seq_x ?_;refine loop_x ?_;refine blk_x ?_;refine seq_n ?_;refine qR ?_;refine rC ?_;refine rQ (call_r (number_is _ hn0 hn1) rfl rfl (arg_e arg_nil) (.inl rfl) (fun _ => rfl)) ?_
          refine rC ?_;refine rQ (neq_s (a := Lib.itoa (intV s)) (b := s) tab_ok rfl rfl rfl) ?_;refine nS ?_;refine wT ?_;refine sR ?_;iterate 2 refine rC ?_
          refine nS ?_;refine wc_ret ?_;refine seq_r ?_
          exact ⟨trivial, [], lf⟩
  · by_cases hpos : 0 < s.length
    · obtain ⟨b, hb⟩ : ∃ b, s[0]? = some b := ⟨_, List.getElem?_eq_getElem hpos⟩
      have hd0 : decide (0 < (s.length : Int)) = true := decide_eq_true (by omega)
      have hd1 : decide ((b.toNat : Int) = 45) = false := decide_eq_false fun e => hm (by
        have : b = 45 := UInt8.toNat_inj.1 (by show b.toNat = 45; omega)
        subst this
        cases s with
        | nil => simp at hb
        | cons a t => simpa using hb)
      have hdv : dg = s := by rw [← hdg, digOf, if_neg hm]
      have hsgv : sg = 1 := by rw [← hsg, sgOf, if_neg hm]
      clear hm hdg hsg
      subst sg
      subst dg
      refine fnIs_of tab_ok Tryz.func112 rfl rfl rfl ?_
      by_cases h19 : 19 < s.length
      · have hd19 : decide (19 < (s.length : Int)) = true := decide_eq_true (by omega)
        have hRn : intR s = none := by rw [hR, if_pos h19]
        rw [hRn]
        refine sR ?_;iterate 2 refine rC ?_
        refine nR ?_;refine rC ?_;refine nR ?_;refine rC ?_;refine nR ?_;iterate 2 refine rC ?_
        refine nQ ?_;refine sR ?_;refine rC ?_;refine rQ (len_s tab_ok rfl rfl) ?_;iterate 2 refine rC ?_
        refine rO ?_;refine rC ?_;refine rO ?_;refine rQ (index_s (l := s) (m := 0) tab_ok rfl rfl rfl hb) ?_;refine rO ?_;refine rC ?_;refine rQ iT ?_;refine nS ?_;refine wF ?_
        refine kS ?_;refine qR ?_;refine rC ?_;refine rQ (len_s tab_ok rfl rfl) ?_;refine rC ?_;refine nS ?_;refine wT ?_;refine sR ?_;iterate 2 refine rC ?_
        refine nS ?_;refine wc_ret ?_;refine seq_r ?_
        exact ⟨trivial, [], lf⟩
      · have hd19 : decide (19 < (s.length : Int)) = false := decide_eq_false (by omega)
        rw [if_neg h19] at hR
        refine sR ?_;iterate 2 refine rC ?_
        refine nR ?_;refine rC ?_;refine nR ?_;refine rC ?_;refine nR ?_;iterate 2 refine rC ?_
        refine nQ ?_;refine sR ?_;refine rC ?_;refine rQ (len_s tab_ok rfl rfl) ?_;iterate 2 refine rC ?_
        refine rO ?_;refine rC ?_;refine rO ?_;refine rQ (index_s (l := s) (m := 0) tab_ok rfl rfl rfl hb) ?_;refine rO ?_;refine rC ?_;refine rQ iT ?_;refine nS ?_;refine wF ?_
        refine kS ?_;refine qR ?_;refine rC ?_;refine rQ (len_s tab_ok rfl rfl) ?_;refine rC ?_;refine nS ?_;refine wF ?_;refine kS ?_;refine qR ?_;refine rC ?_;refine nS ?_
        refine wc_block ?_
        refine wc_inv (fun i : Nat => ⟨[(7, .int .i64 i), (6, .d (strD s)), (5, .int .i64 1), (4, .int .i64 ((s.take i).foldl (intStep 1) 0)), (0, .d (strD s))], [], 72, Tryz.f112.ntmps, 64⟩) (fun i => i ≤ s.length ∧ (s.take i).all isDig = true) (fun i => s.length - i) 0 [] ⟨Nat.zero_le _, by simp⟩
          (.of rfl rfl rfl rfl rfl ⟨⟨_, rfl, .refl _⟩, rfl, ⟨_, rfl, .refl _⟩, rfl, ⟨_, rfl, .refl _⟩, rfl, ⟨_, rfl, .refl _⟩, rfl, ⟨_, rfl, .refl _⟩, rfl, trivial⟩ trivial) ?_
        intro i hi
        obtain ⟨hi, hall⟩ := hi
        refine wc_of ?_;refine qR ?_;iterate 2 refine rC ?_
        refine rQ (len_s tab_ok rfl rfl) ?_;refine rC ?_;refine nS ?_
        refine wc_cond rfl (fun h3 => ?_) (fun h3 => ?_)
        · have hlt : i < s.length := by have := of_decide_eq_true h3; omega
          obtain ⟨c, hc⟩ : ∃ c, s[i]? = some c := ⟨_, List.getElem?_eq_getElem hlt⟩
          have hcb := c.toNat_lt
          have hw32 : IntKind.i64.wrap (c.toNat : Int) = (c.toNat : Int) := wrap_i64 (by omega) (by omega)
          have hw33 : IntKind.i64.wrap ((c.toNat : Int) - 48) = (c.toNat : Int) - 48 := wrap_i64 (by omega) (by omega)
          have htk : s.take (i + 1) = s.take i ++ [c] := by rw [List.take_add_one, hc]; rfl
          by_cases k1 : c.toNat < 48
          · have e1 : decide ((c.toNat : Int) - 48 < 0) = true := decide_eq_true (by omega)
            have hRn : intR s = none := by
              rw [hR, if_pos]
              rw [List.all_eq_false]
              exact ⟨c, List.mem_of_getElem? hc, by simp [isDig]; omega⟩
            rw [hRn]
            refine kS ?_;refine wc_seq ?_;refine wc_block ?_;refine sR ?_;iterate 2 refine rC ?_
            refine rQ (index_s (l := s) (m := i) tab_ok rfl rfl rfl hc) ?_;refine rQ (conv_int (m := (c.toNat : Int)) tab_ok rfl rfl rfl hw32) ?_;refine rQ (sub_int tab_ok rfl rfl hw33) ?_
            refine rC ?_;refine nQ ?_;refine sR ?_;iterate 3 refine rC ?_
            iterate 2 refine rS ?_
            refine rQ iT ?_;refine nS ?_;refine wV ?_;refine sR ?_;iterate 2 refine rC ?_
            refine nS ?_;refine wc_ret ?_;refine seq_r ?_;refine blk_r ?_;refine seq_r ?_;refine loop_r ?_;refine blk_r ?_;refine seq_r ?_
            exact ⟨trivial, [], lf⟩
          · have e1 : decide ((c.toNat : Int) - 48 < 0) = false := decide_eq_false (by omega)
            by_cases k2 : 57 < c.toNat
            · have e2 : decide (9 < (c.toNat : Int) - 48) = true := decide_eq_true (by omega)
              have hRn : intR s = none := by
                rw [hR, if_pos]
                rw [List.all_eq_false]
                exact ⟨c, List.mem_of_getElem? hc, by simp [isDig]; omega⟩
              rw [hRn]
              refine kS ?_;refine wc_seq ?_;refine wc_block ?_;refine sR ?_;iterate 2 refine rC ?_
              refine rQ (index_s (l := s) (m := i) tab_ok rfl rfl rfl hc) ?_;refine rQ (conv_int (m := (c.toNat : Int)) tab_ok rfl rfl rfl hw32) ?_;refine rQ (sub_int tab_ok rfl rfl hw33) ?_
              refine rC ?_;refine nQ ?_;refine sR ?_;iterate 3 refine rC ?_
              refine rO ?_;refine rC ?_;refine rO ?_;refine rC ?_;refine rQ iF ?_;refine nS ?_;refine wT ?_;refine sR ?_;iterate 2 refine rC ?_
              refine nS ?_;refine wc_ret ?_;refine seq_r ?_;refine blk_r ?_;refine seq_r ?_;refine loop_r ?_;refine blk_r ?_;refine seq_r ?_
              exact ⟨trivial, [], lf⟩
            · have e2 : decide (9 < (c.toNat : Int) - 48) = false := decide_eq_false (by omega)
              have hst : (s.take (i + 1)).foldl (intStep 1) 0 = intStep 1 ((s.take i).foldl (intStep 1) 0) c := by rw [htk, List.foldl_append]; rfl
              refine kS ?_;refine wc_seq ?_;refine wc_block ?_;refine sR ?_;iterate 2 refine rC ?_
              refine rQ (index_s (l := s) (m := i) tab_ok rfl rfl rfl hc) ?_;refine rQ (conv_int (m := (c.toNat : Int)) tab_ok rfl rfl rfl hw32) ?_;refine rQ (sub_int tab_ok rfl rfl hw33) ?_
              refine rC ?_;refine nQ ?_;refine sR ?_;iterate 3 refine rC ?_
              refine rO ?_;refine rC ?_;refine rO ?_;refine rC ?_;refine rQ iF ?_;refine nS ?_;refine wF ?_;refine kS ?_;refine wc_region ?_;refine rC ?_;refine rQ (mul_int tab_ok rfl rfl rfl) ?_
              iterate 2 refine rC ?_
              refine rQ (mul_int tab_ok rfl rfl rfl) ?_;refine rQ (add_int tab_ok rfl rfl rfl) ?_;refine rC ?_;refine reg_nil ?_;refine blk_n ?_;refine seq_n ?_;refine wc_region ?_
              refine rC ?_;refine rQ iD ?_;refine rC ?_;refine reg_nil ?_
              exact loop_n (i + 1) [] ⟨hlt, by rw [htk, List.all_append, hall]; simp [isDig]; omega⟩ (by omega) (.of rfl rfl rfl rfl rfl ⟨⟨_, rfl, .refl _⟩, rfl, ⟨_, rfl, .refl _⟩, rfl, ⟨_, rfl, .refl _⟩, rfl, ⟨_, rfl, AVLe.of_eq (by rw [hst]; rfl)⟩, rfl, ⟨_, rfl, .refl _⟩, rfl, trivial⟩ trivial)
        · have he : i = s.length := by have := of_decide_eq_false h3; omega
          subst he
          rw [List.take_length] at hall ⊢
          rw [if_neg (by rw [hall]; decide)] at hR
          rw [← hV]
          obtain ⟨hn0, hn1⟩ : -9223372036854775808 ≤ intV s ∧ intV s ≤ 9223372036854775807 := by rw [hV]; exact fold_in _ _ _ ⟨by decide, by decide⟩
          by_cases hq : Lib.itoa (intV s) = s
          · have e3 : (!decide (Lib.itoa (intV s) = s)) = false := by rw [decide_eq_true hq]; rfl
            rw [if_pos hq] at hR
            rw [hR]
            refine wc_exit ?_;refine seq_x ?_;refine loop_x ?_;refine blk_x ?_;refine seq_n ?_;refine qR ?_;refine rC ?_;refine rQ (call_r (number_is _ hn0 hn1) rfl rfl (arg_e arg_nil) (.inl rfl) (fun _ => rfl)) ?_
            refine rC ?_;refine rQ (neq_s (a := Lib.itoa (intV s)) (b := s) tab_ok rfl rfl rfl) ?_;refine nS ?_;refine wF ?_;refine kS ?_;refine sR ?_;iterate 3 refine rC ?_
            refine nS ?_;refine wc_ret ?_
            exact ⟨trivial, [], lf⟩
          · have e3 : (!decide (Lib.itoa (intV s) = s)) = true := by rw [decide_eq_false hq]; rfl
            rw [if_neg hq] at hR
            rw [hR]
            refine wc_exit ?_;refine seq_x ?_;refine loop_x ?_;refine blk_x ?_;refine seq_n ?_;refine qR ?_;refine rC ?_;refine rQ (call_r (number_is _ hn0 hn1) rfl rfl (arg_e arg_nil) (.inl rfl) (fun _ => rfl)) ?_
            refine rC ?_;refine rQ (neq_s (a := Lib.itoa (intV s)) (b := s) tab_ok rfl rfl rfl) ?_;refine nS ?_;refine wT ?_;refine sR ?_;iterate 2 refine rC ?_
            refine nS ?_;refine wc_ret ?_;refine seq_r ?_
            exact ⟨trivial, [], lf⟩
    · have hd0 : decide (0 < (s.length : Int)) = false := decide_eq_false (by omega)
      have hdv : dg = s := by rw [← hdg, digOf, if_neg hm]
      have hsgv : sg = 1 := by rw [← hsg, sgOf, if_neg hm]
      clear hm hdg hsg
      subst sg
      subst dg
      refine fnIs_of tab_ok Tryz.func112 rfl rfl rfl ?_
      by_cases h19 : 19 < s.length
      · have hd19 : decide (19 < (s.length : Int)) = true := decide_eq_true (by omega)
        have hRn : intR s = none := by rw [hR, if_pos h19]
        rw [hRn]
        refine sR ?_;iterate 2 refine rC ?_
        refine nR ?_;refine rC ?_;refine nR ?_;refine rC ?_;refine nR ?_;iterate 2 refine rC ?_
        refine nQ ?_;refine sR ?_;refine rC ?_;refine rQ (len_s tab_ok rfl rfl) ?_;iterate 2 refine rC ?_
        iterate 3 refine rS ?_
        refine rQ iF ?_;refine nS ?_;refine wG ?_;refine kS ?_;refine qR ?_;refine rC ?_;refine rQ (len_s tab_ok rfl rfl) ?_;refine rC ?_;refine nS ?_;refine wT ?_;refine sR ?_
        iterate 2 refine rC ?_
        refine nS ?_;refine wc_ret ?_;refine seq_r ?_
        exact ⟨trivial, [], lf⟩
      · have hd19 : decide (19 < (s.length : Int)) = false := decide_eq_false (by omega)
        rw [if_neg h19] at hR
        refine sR ?_;iterate 2 refine rC ?_
        refine nR ?_;refine rC ?_;refine nR ?_;refine rC ?_;refine nR ?_;iterate 2 refine rC ?_
        refine nQ ?_;refine sR ?_;refine rC ?_;refine rQ (len_s tab_ok rfl rfl) ?_;iterate 2 refine rC ?_
        iterate 3 refine rS ?_
        refine rQ iF ?_;refine nS ?_;refine wG ?_;refine kS ?_;refine qR ?_;refine rC ?_;refine rQ (len_s tab_ok rfl rfl) ?_;refine rC ?_;refine nS ?_;refine wF ?_;refine kS ?_
        refine qR ?_;refine rC ?_;refine nS ?_;refine wc_block ?_
        refine wc_inv (fun i : Nat => ⟨[(7, .int .i64 i), (6, .d (strD s)), (5, .int .i64 1), (4, .int .i64 ((s.take i).foldl (intStep 1) 0)), (0, .d (strD s))], [], 72, Tryz.f112.ntmps, 64⟩) (fun i => i ≤ s.length ∧ (s.take i).all isDig = true) (fun i => s.length - i) 0 [] ⟨Nat.zero_le _, by simp⟩
          (.of rfl rfl rfl rfl rfl ⟨⟨_, rfl, .refl _⟩, rfl, ⟨_, rfl, .refl _⟩, rfl, ⟨_, rfl, .refl _⟩, rfl, ⟨_, rfl, .refl _⟩, rfl, ⟨_, rfl, .refl _⟩, rfl, trivial⟩ trivial) ?_
        intro i hi
        obtain ⟨hi, hall⟩ := hi
        refine wc_of ?_;refine qR ?_;iterate 2 refine rC ?_
        refine rQ (len_s tab_ok rfl rfl) ?_;refine rC ?_;refine nS ?_
        refine wc_cond rfl (fun h3 => ?_) (fun h3 => ?_)
        · have hlt : i < s.length := by have := of_decide_eq_true h3; omega
          obtain ⟨c, hc⟩ : ∃ c, s[i]? = some c := ⟨_, List.getElem?_eq_getElem hlt⟩
          have hcb := c.toNat_lt
          have hw32 : IntKind.i64.wrap (c.toNat : Int) = (c.toNat : Int) := wrap_i64 (by omega) (by omega)
          have hw33 : IntKind.i64.wrap ((c.toNat : Int) - 48) = (c.toNat : Int) - 48 := wrap_i64 (by omega) (by omega)
          have htk : s.take (i + 1) = s.take i ++ [c] := by rw [List.take_add_one, hc]; rfl
          by_cases k1 : c.toNat < 48
          · have e1 : decide ((c.toNat : Int) - 48 < 0) = true := decide_eq_true (by omega)
            have hRn : intR s = none := by
              rw [hR, if_pos]
              rw [List.all_eq_false]
              exact ⟨c, List.mem_of_getElem? hc, by simp [isDig]; omega⟩
            rw [hRn]
            refine kS ?_;refine wc_seq ?_;refine wc_block ?_;refine sR ?_;iterate 2 refine rC ?_
            refine rQ (index_s (l := s) (m := i) tab_ok rfl rfl rfl hc) ?_;refine rQ (conv_int (m := (c.toNat : Int)) tab_ok rfl rfl rfl hw32) ?_;refine rQ (sub_int tab_ok rfl rfl hw33) ?_
            refine rC ?_;refine nQ ?_;refine sR ?_;iterate 3 refine rC ?_
            iterate 2 refine rS ?_
            refine rQ iT ?_;refine nS ?_;refine wV ?_;refine sR ?_;iterate 2 refine rC ?_
            refine nS ?_;refine wc_ret ?_;refine seq_r ?_;refine blk_r ?_;refine seq_r ?_;refine loop_r ?_;refine blk_r ?_;refine seq_r ?_
            exact ⟨trivial, [], lf⟩
          · have e1 : decide ((c.toNat : Int) - 48 < 0) = false := decide_eq_false (by omega)
            by_cases k2 : 57 < c.toNat
            · have e2 : decide (9 < (c.toNat : Int) - 48) = true := decide_eq_true (by omega)
              have hRn : intR s = none := by
                rw [hR, if_pos]
                rw [List.all_eq_false]
                exact ⟨c, List.mem_of_getElem? hc, by simp [isDig]; omega⟩
              rw [hRn]
              refine kS ?_;refine wc_seq ?_;refine wc_block ?_;refine sR ?_;iterate 2 refine rC ?_
              refine rQ (index_s (l := s) (m := i) tab_ok rfl rfl rfl hc) ?_;refine rQ (conv_int (m := (c.toNat : Int)) tab_ok rfl rfl rfl hw32) ?_;refine rQ (sub_int tab_ok rfl rfl hw33) ?_
              refine rC ?_;refine nQ ?_;refine sR ?_;iterate 3 refine rC ?_
              refine rO ?_;refine rC ?_;refine rO ?_;refine rC ?_;refine rQ iF ?_;refine nS ?_;refine wT ?_;refine sR ?_;iterate 2 refine rC ?_
              refine nS ?_;refine wc_ret ?_;refine seq_r ?_;refine blk_r ?_;refine seq_r ?_;refine loop_r ?_;refine blk_r ?_;refine seq_r ?_
              exact ⟨trivial, [], lf⟩
            · have e2 : decide (9 < (c.toNat : Int) - 48) = false := decide_eq_false (by omega)
              have hst : (s.take (i + 1)).foldl (intStep 1) 0 = intStep 1 ((s.take i).foldl (intStep 1) 0) c := by rw [htk, List.foldl_append]; rfl
              refine kS ?_;refine wc_seq ?_;refine wc_block ?_;refine sR ?_;iterate 2 refine rC ?_
              refine rQ (index_s (l := s) (m := i) tab_ok rfl rfl rfl hc) ?_;refine rQ (conv_int (m := (c.toNat : Int)) tab_ok rfl rfl rfl hw32) ?_;refine rQ (sub_int tab_ok rfl rfl hw33) ?_
              refine rC ?_;refine nQ ?_;refine sR ?_;iterate 3 refine rC ?_
              refine rO ?_;refine rC ?_;refine rO ?_;refine rC ?_;refine rQ iF ?_;refine nS ?_;refine wF ?_;refine kS ?_;refine wc_region ?_;refine rC ?_;refine rQ (mul_int tab_ok rfl rfl rfl) ?_
              iterate 2 refine rC ?_
              refine rQ (mul_int tab_ok rfl rfl rfl) ?_;refine rQ (add_int tab_ok rfl rfl rfl) ?_;refine rC ?_;refine reg_nil ?_;refine blk_n ?_;refine seq_n ?_;refine wc_region ?_
              refine rC ?_;refine rQ iD ?_;refine rC ?_;refine reg_nil ?_
              exact loop_n (i + 1) [] ⟨hlt, by rw [htk, List.all_append, hall]; simp [isDig]; omega⟩ (by omega) (.of rfl rfl rfl rfl rfl ⟨⟨_, rfl, .refl _⟩, rfl, ⟨_, rfl, .refl _⟩, rfl, ⟨_, rfl, .refl _⟩, rfl, ⟨_, rfl, AVLe.of_eq (by rw [hst]; rfl)⟩, rfl, ⟨_, rfl, .refl _⟩, rfl, trivial⟩ trivial)
        · have he : i = s.length := by have := of_decide_eq_false h3; omega
          subst he
          rw [List.take_length] at hall ⊢
          rw [if_neg (by rw [hall]; decide)] at hR
          rw [← hV]
          obtain ⟨hn0, hn1⟩ : -9223372036854775808 ≤ intV s ∧ intV s ≤ 9223372036854775807 := by rw [hV]; exact fold_in _ _ _ ⟨by decide, by decide⟩
          by_cases hq : Lib.itoa (intV s) = s
          · have e3 : (!decide (Lib.itoa (intV s) = s)) = false := by rw [decide_eq_true hq]; rfl
            rw [if_pos hq] at hR
            rw [hR]
            refine wc_exit ?_;refine seq_x ?_;refine loop_x ?_;refine blk_x ?_;refine seq_n ?_;refine qR ?_;refine rC ?_;refine rQ (call_r (number_is _ hn0 hn1) rfl rfl (arg_e arg_nil) (.inl rfl) (fun _ => rfl)) ?_
            refine rC ?_;refine rQ (neq_s (a := Lib.itoa (intV s)) (b := s) tab_ok rfl rfl rfl) ?_;refine nS ?_;refine wF ?_;refine kS ?_;refine sR ?_;iterate 3 refine rC ?_
            refine nS ?_;refine wc_ret ?_
            exact ⟨trivial, [], lf⟩
          · have e3 : (!decide (Lib.itoa (intV s) = s)) = true := by rw [decide_eq_false hq]; rfl
            rw [if_neg hq] at hR
            rw [hR]
            refine wc_exit ?_;refine seq_x ?_;refine loop_x ?_;refine blk_x ?_;refine seq_n ?_;refine qR ?_;refine rC ?_;refine rQ (call_r (number_is _ hn0 hn1) rfl rfl (arg_e arg_nil) (.inl rfl) (fun _ => rfl)) ?_
            refine rC ?_;refine rQ (neq_s (a := Lib.itoa (intV s)) (b := s) tab_ok rfl rfl rfl) ?_;refine nS ?_;refine wT ?_;refine sR ?_;iterate 2 refine rC ?_
            refine nS ?_;refine wc_ret ?_;refine seq_r ?_
            exact ⟨trivial, [], lf⟩
end Go.Proofs.YtmojbghcngdkpaaGreatDoor

namespace Go.Proofs.YtmojbghcngdkpaaGreatDoor
open Go.Eng Go.Plain
set_option maxHeartbeats 4000000
set_option maxRecDepth 20000
attribute [local irreducible] WC RegS RegD SeqQ BlkQ ScoQ RegK CutK Sat SatN FnIs LoopQ StepIs OpIs
theorem dig_all : ∀ n, n < 256 → (if 48 ≤ n ∧ n ≤ 57 then (Lib.indexByte hexD n.toUInt8 = ((n - 48 : Nat) : Int)) else if 97 ≤ n ∧ n ≤ 102 then Lib.indexByte hexD n.toUInt8 = ((n - 87 : Nat) : Int) else Lib.indexByte hexD n.toUInt8 = -1) := by decide +kernel
theorem dig_num {c : UInt8} (h1 : 48 ≤ c.toNat) (h2 : c.toNat ≤ 57) : Lib.indexByte hexD c = ((c.toNat - 48 : Nat) : Int) := by
  have := dig_all c.toNat c.toNat_lt
  rw [if_pos ⟨h1, h2⟩] at this
  simpa using this
theorem dig_let {c : UInt8} (h1 : 97 ≤ c.toNat) (h2 : c.toNat ≤ 102) : Lib.indexByte hexD c = ((c.toNat - 87 : Nat) : Int) := by
  have := dig_all c.toNat c.toNat_lt
  rw [if_neg (by omega), if_pos ⟨h1, h2⟩] at this
  simpa using this
theorem dig_bad {c : UInt8} (h1 : ¬ (48 ≤ c.toNat ∧ c.toNat ≤ 57)) (h2 : ¬ (97 ≤ c.toNat ∧ c.toNat ≤ 102)) : Lib.indexByte hexD c < 0 := by
  have := dig_all c.toNat c.toNat_lt
  rw [if_neg h1, if_neg h2] at this
  have e : Lib.indexByte hexD c = -1 := by simpa using this
  omega
theorem pv_two : ∀ (l : List UInt8) (a b : UInt8), l.length % 2 = 0 → pairsV (l ++ [a, b]) = pairsV l ++ [((nibV a * 16 + nibV b : Nat) : Int)]
  | [], a, b, _ => by simp [pairsV]
  | [_], _, _, h => by simp at h
  | x :: y :: l, a, b, h => by
    have := pv_two l a b (by simp only [List.length_cons] at h; omega)
    simp only [List.cons_append, pairsV, this]
def nV (l : List UInt8) : Nat := l.foldl (fun n c => n * 16 + nibV c) 0
theorem nV_snoc (l : List UInt8) (c : UInt8) : nV (l ++ [c]) = nV l * 16 + nibV c := by simp [nV]
abbrev byR (o : Option (List UInt8)) : AV := .tup (.acons (.d (encB (o.getD []))) (.acons (.int .i64 (o1 o)) .anil))
theorem byR_nil : AVLe (.tup (.acons (.d (.sc nil_)) (.acons (.int .i64 0) .anil))) (byR none) := AVLe.tup1 (nil_arr _ _) rfl
theorem rbytes_is (s : List UInt8) (hl : s.length ≤ 1048575) : FnIs Tryz.prog 114 [.d (strD s)] [] (byR (unhexP s)) [] := by
  refine fnIs_of tab_ok Tryz.func114 rfl rfl rfl ?_
  by_cases h45 : s = [45]
  · have hd : decide (s = [45]) = true := decide_eq_true h45
    have hu : unhexP s = some [] := by rw [unhexP, if_pos h45]
    rw [hu]
    refine sR ?_;iterate 2 refine rC ?_
    refine nQ ?_;refine sR ?_;refine rC ?_;refine rQ (eql_s (a := s) (b := [45]) tab_ok rfl rfl rfl) ?_;refine nS ?_;refine wT ?_;refine sR ?_;iterate 2 refine rC ?_
    refine nS ?_;refine wc_ret ?_;refine seq_r ?_
    exact ⟨trivial, [], .of rfl rfl rfl rfl rfl ⟨⟨_, rfl, AVLe.tup1 (nil_arr _ _) rfl⟩, rfl, trivial⟩ trivial⟩
  have hd : decide (s = [45]) = false := decide_eq_false h45
  refine sR ?_;iterate 2 refine rC ?_
  refine nQ ?_;refine sR ?_;refine rC ?_;refine rQ (eql_s (a := s) (b := [45]) tab_ok rfl rfl rfl) ?_;refine nS ?_;refine wF ?_;refine kS ?_;refine sR ?_;refine rC ?_
  refine nQ ?_;refine sR ?_;refine rC ?_;refine nS ?_;refine wc_block ?_
  refine wc_inv (fun j : Nat => ⟨[(5, .int .i64 ((2 * j : Nat) : Int)), (4, .own 65 0 (pairsV (s.take (2 * j))).length 1 none), (0, .d (strD s))], [(65, some (.ds 5 1 false encU8 (pairsV (s.take (2 * j)))))], 72, Tryz.f114.ntmps, 64⟩) (fun j => 2 * j ≤ s.length ∧ ∀ c ∈ s.take (2 * j), 0 ≤ Lib.indexByte hexD c) (fun j => s.length - 2 * j) 0 [(65, none)] ⟨Nat.zero_le _, by simp⟩
    (.of rfl rfl rfl rfl rfl ⟨⟨_, rfl, .refl _⟩, rfl, ⟨_, rfl, .refl _⟩, rfl, ⟨_, rfl, .refl _⟩, rfl, trivial⟩ ⟨⟨rfl, rfl, rfl⟩, trivial⟩) ?_
  intro j hj
  obtain ⟨hj, hdig⟩ := hj
  have hw13 : IntKind.i64.wrap (((2 * j : Nat) : Int) + 1) = ((2 * j + 1 : Nat) : Int) := by rw [wrap_i64 (by omega) (by omega)]; omega
  refine wc_of ?_;refine qR ?_;refine rC ?_;refine rQ (add_int (m := ((2 * j + 1 : Nat) : Int)) tab_ok rfl rfl hw13) ?_;refine rC ?_;refine rQ (len_s tab_ok rfl rfl) ?_
  refine rC ?_;refine nS ?_
  refine wc_cond rfl (fun h3 => ?_) (fun h3 => ?_)
  · have hlt : 2 * j + 1 < s.length := by have := of_decide_eq_true h3; omega
    clear hd h45 h3
    refine kS ?_;refine wc_seq ?_;refine wc_block ?_;refine sR ?_;refine rC ?_;refine nQ ?_;refine sR ?_;refine rC ?_;refine nS ?_;refine wc_block ?_
    refine wc_inv (fun k : Nat => ⟨[(7, .int .i64 k), (6, .int .i64 ((nV ((s.drop (2 * j)).take k) : Nat) : Int)), (5, .int .i64 ((2 * j : Nat) : Int)), (4, .own 65 0 (pairsV (s.take (2 * j))).length 1 none), (0, .d (strD s))], [(65, some (.ds 5 1 false encU8 (pairsV (s.take (2 * j)))))], 72, Tryz.f114.ntmps, 64⟩) (fun k => k ≤ 2 ∧ (∀ c ∈ (s.drop (2 * j)).take k, 0 ≤ Lib.indexByte hexD c) ∧ (k = 0 ∧ nV ((s.drop (2 * j)).take k) = 0 ∨ k = 1 ∧ nV ((s.drop (2 * j)).take k) ≤ 15 ∨ k = 2 ∧ nV ((s.drop (2 * j)).take k) ≤ 255)) (fun k => 2 - k) 0 [] ⟨Nat.zero_le _, by simp, .inl ⟨rfl, rfl⟩⟩
      (.of rfl rfl rfl rfl rfl ⟨⟨_, rfl, .refl _⟩, rfl, ⟨_, rfl, .refl _⟩, rfl, ⟨_, rfl, .refl _⟩, rfl, ⟨_, rfl, .refl _⟩, rfl, ⟨_, rfl, .refl _⟩, rfl, trivial⟩ ⟨⟨rfl, rfl, _, rfl, .refl _⟩, trivial⟩) ?_
    intro k hk
    obtain ⟨hk, hkd, hkn⟩ := hk
    refine wc_of ?_;refine qR ?_;iterate 2 refine rC ?_
    refine nS ?_
    refine wc_cond rfl (fun h4 => ?_) (fun h4 => ?_)
    · have hk2 : k < 2 := by have := of_decide_eq_true h4; omega
      clear h4
      obtain ⟨c, hc⟩ : ∃ c, s[2 * j + k]? = some c := ⟨_, List.getElem?_eq_getElem (by omega)⟩
      have hcb := c.toNat_lt
      have hw26 : IntKind.i64.wrap (((2 * j : Nat) : Int) + (k : Int)) = ((2 * j + k : Nat) : Int) := by rw [wrap_i64 (by omega) (by omega)]; omega
      have hw28 : IntKind.i64.wrap (c.toNat : Int) = (c.toNat : Int) := wrap_i64 (by omega) (by omega)
      have hw30 : IntKind.i64.wrap ((c.toNat : Int) - 48) = (c.toNat : Int) - 48 := wrap_i64 (by omega) (by omega)
      have htk : (s.drop (2 * j)).take (k + 1) = (s.drop (2 * j)).take k ++ [c] := by rw [List.take_add_one, List.getElem?_drop, hc]; rfl
      have hn16 := nibV_lt c
      have hw47 : IntKind.i64.wrap (((nV ((s.drop (2 * j)).take k) : Nat) : Int) * 16) = ((nV ((s.drop (2 * j)).take k) * 16 : Nat) : Int) := by rw [wrap_i64 (by omega) (by omega)]; omega
      have hst : nV ((s.drop (2 * j)).take (k + 1)) = nV ((s.drop (2 * j)).take k) * 16 + nibV c := by rw [htk, nV_snoc]
      have hbad : Lib.indexByte hexD c < 0 → unhexP s = none := fun h => by
        rw [unhexP, if_neg (by intro e; rw [e] at hlt; simp at hlt), if_neg (by intro e; rw [e] at hlt; simp at hlt), pairs_bad s c (List.mem_of_getElem? hc) h]
      by_cases q1 : 97 ≤ c.toNat
      · have e1 : decide ((97 : Int) ≤ (c.toNat : Int)) = true := decide_eq_true (by omega)
        by_cases q2 : c.toNat ≤ 102
        · have e2 : decide ((c.toNat : Int) ≤ 102) = true := decide_eq_true (by omega)
          have hx := dig_let q1 q2
          have hnv : nibV c = c.toNat - 87 := by rw [nibV, hx]; omega
          have hw38 : IntKind.i64.wrap ((c.toNat : Int) - 97) = (c.toNat : Int) - 97 := wrap_i64 (by omega) (by omega)
          have hw39 : IntKind.i64.wrap ((c.toNat : Int) - 97 + 10) = (nibV c : Int) := by rw [wrap_i64 (by omega) (by omega)]; omega
          have hix : 0 ≤ Lib.indexByte hexD c := by rw [hx]; omega
          have hw49 : IntKind.i64.wrap (((nV ((s.drop (2 * j)).take k) * 16 : Nat) : Int) + (nibV c : Int)) = ((nV ((s.drop (2 * j)).take (k + 1)) : Nat) : Int) := by rw [wrap_i64 (by omega) (by omega)]; omega
          clear hbad
          refine kS ?_;refine wc_seq ?_;refine wc_block ?_;refine sR ?_;iterate 3 refine rC ?_
          refine rQ (add_int (m := ((2 * j + k : Nat) : Int)) tab_ok rfl rfl hw26) ?_;refine rQ (index_s (l := s) (m := 2 * j + k) tab_ok rfl rfl rfl hc) ?_;refine rQ (conv_int (m := (c.toNat : Int)) tab_ok rfl rfl rfl hw28) ?_
          refine rC ?_;refine nR ?_;refine rC ?_;refine rQ (sub_int tab_ok rfl rfl hw30) ?_;refine rC ?_;refine nQ ?_;refine sR ?_;iterate 3 refine rC ?_
          refine rO ?_;refine rC ?_;refine rO ?_;refine rC ?_;refine rQ iT ?_;refine nS ?_;refine wT ?_;refine wc_region ?_;refine rC ?_;refine rQ (sub_int tab_ok rfl rfl hw38) ?_
          refine rQ (add_int (m := (nibV c : Int)) tab_ok rfl rfl hw39) ?_;refine rC ?_;refine nS ?_;refine wc_region ?_;refine rC ?_;refine rQ (mul_int (m := ((nV ((s.drop (2 * j)).take k) * 16 : Nat) : Int)) tab_ok rfl rfl hw47) ?_
          refine rC ?_;refine rQ (add_int (m := ((nV ((s.drop (2 * j)).take (k + 1)) : Nat) : Int)) tab_ok rfl rfl hw49) ?_;refine rC ?_;refine reg_nil ?_;refine blk_n ?_
          refine seq_n ?_;refine wc_region ?_;refine rC ?_;refine rQ iD ?_;refine rC ?_;refine reg_nil ?_
          exact loop_n (k + 1) [] ⟨hk2, fun b hb => by rw [htk] at hb; rcases List.mem_append.1 hb with hb | hb; exact hkd b hb; rw [show b = c by simpa using hb]; exact hix, by omega⟩ (by omega) (.of rfl rfl rfl rfl rfl ⟨⟨_, rfl, .refl _⟩, rfl, ⟨_, rfl, .refl _⟩, rfl, ⟨_, rfl, .refl _⟩, rfl, ⟨_, rfl, .refl _⟩, rfl, ⟨_, rfl, .refl _⟩, rfl, trivial⟩ ⟨⟨rfl, rfl, _, rfl, .refl _⟩, trivial⟩)
        · have e2 : decide ((c.toNat : Int) ≤ 102) = false := decide_eq_false (by omega)
          have e3 : decide ((c.toNat : Int) < 48) = false := decide_eq_false (by omega)
          have e4 : decide (57 < (c.toNat : Int)) = true := decide_eq_true (by omega)
          have hu := hbad (dig_bad (by omega) (by omega))
          rw [hu]
          refine kS ?_;refine wc_seq ?_;refine wc_block ?_;refine sR ?_;iterate 3 refine rC ?_
          refine rQ (add_int (m := ((2 * j + k : Nat) : Int)) tab_ok rfl rfl hw26) ?_;refine rQ (index_s (l := s) (m := 2 * j + k) tab_ok rfl rfl rfl hc) ?_;refine rQ (conv_int (m := (c.toNat : Int)) tab_ok rfl rfl rfl hw28) ?_
          refine rC ?_;refine nR ?_;refine rC ?_;refine rQ (sub_int tab_ok rfl rfl hw30) ?_;refine rC ?_;refine nQ ?_;refine sR ?_;iterate 3 refine rC ?_
          refine rO ?_;refine rC ?_;refine rO ?_;refine rC ?_;refine rQ iT ?_;refine nS ?_;refine wF ?_;refine sR ?_;iterate 3 refine rC ?_
          refine rO ?_;refine rC ?_;refine rO ?_;refine rC ?_;refine rQ iF ?_;refine nS ?_;refine wT ?_;refine sR ?_;iterate 2 refine rC ?_
          refine nS ?_;refine wc_ret ?_;refine seq_r ?_;refine blk_r ?_;refine seq_r ?_;refine loop_r ?_;refine blk_r ?_;refine seq_r ?_;refine blk_r ?_;refine seq_r ?_;refine loop_r ?_
          refine blk_r ?_;refine seq_r ?_
          exact ⟨trivial, [], .of rfl rfl rfl rfl rfl ⟨⟨_, rfl, byR_nil⟩, rfl, trivial⟩ trivial⟩
      · have e1 : decide ((97 : Int) ≤ (c.toNat : Int)) = false := decide_eq_false (by omega)
        by_cases q3 : c.toNat < 48
        · have e3 : decide ((c.toNat : Int) < 48) = true := decide_eq_true (by omega)
          have hu := hbad (dig_bad (by omega) (by omega))
          rw [hu]
          refine kS ?_;refine wc_seq ?_;refine wc_block ?_;refine sR ?_;iterate 3 refine rC ?_
          refine rQ (add_int (m := ((2 * j + k : Nat) : Int)) tab_ok rfl rfl hw26) ?_;refine rQ (index_s (l := s) (m := 2 * j + k) tab_ok rfl rfl rfl hc) ?_;refine rQ (conv_int (m := (c.toNat : Int)) tab_ok rfl rfl rfl hw28) ?_
          refine rC ?_;refine nR ?_;refine rC ?_;refine rQ (sub_int tab_ok rfl rfl hw30) ?_;refine rC ?_;refine nQ ?_;refine sR ?_;iterate 3 refine rC ?_
          iterate 2 refine rS ?_
          refine rQ iF ?_;refine nS ?_;refine wG ?_;refine sR ?_;iterate 3 refine rC ?_
          iterate 2 refine rS ?_
          refine rQ iT ?_;refine nS ?_;refine wV ?_;refine sR ?_;iterate 2 refine rC ?_
          refine nS ?_;refine wc_ret ?_;refine seq_r ?_;refine blk_r ?_;refine seq_r ?_;refine loop_r ?_;refine blk_r ?_;refine seq_r ?_;refine blk_r ?_;refine seq_r ?_;refine loop_r ?_
          refine blk_r ?_;refine seq_r ?_
          exact ⟨trivial, [], .of rfl rfl rfl rfl rfl ⟨⟨_, rfl, byR_nil⟩, rfl, trivial⟩ trivial⟩
        · have e3 : decide ((c.toNat : Int) < 48) = false := decide_eq_false (by omega)
          by_cases q4 : 57 < c.toNat
          · have e4 : decide (57 < (c.toNat : Int)) = true := decide_eq_true (by omega)
            have hu := hbad (dig_bad (by omega) (by omega))
            rw [hu]
            refine kS ?_;refine wc_seq ?_;refine wc_block ?_;refine sR ?_;iterate 3 refine rC ?_
            refine rQ (add_int (m := ((2 * j + k : Nat) : Int)) tab_ok rfl rfl hw26) ?_;refine rQ (index_s (l := s) (m := 2 * j + k) tab_ok rfl rfl rfl hc) ?_;refine rQ (conv_int (m := (c.toNat : Int)) tab_ok rfl rfl rfl hw28) ?_
            refine rC ?_;refine nR ?_;refine rC ?_;refine rQ (sub_int tab_ok rfl rfl hw30) ?_;refine rC ?_;refine nQ ?_;refine sR ?_;iterate 3 refine rC ?_
            iterate 2 refine rS ?_
            refine rQ iF ?_;refine nS ?_;refine wG ?_;refine sR ?_;iterate 3 refine rC ?_
            refine rO ?_;refine rC ?_;refine rO ?_;refine rC ?_;refine rQ iF ?_;refine nS ?_;refine wT ?_;refine sR ?_;iterate 2 refine rC ?_
            refine nS ?_;refine wc_ret ?_;refine seq_r ?_;refine blk_r ?_;refine seq_r ?_;refine loop_r ?_;refine blk_r ?_;refine seq_r ?_;refine blk_r ?_;refine seq_r ?_;refine loop_r ?_
            refine blk_r ?_;refine seq_r ?_
            exact ⟨trivial, [], .of rfl rfl rfl rfl rfl ⟨⟨_, rfl, byR_nil⟩, rfl, trivial⟩ trivial⟩
          · have e4 : decide (57 < (c.toNat : Int)) = false := decide_eq_false (by omega)
            have hx := dig_num (c := c) (by omega) (by omega)
            have hnv : nibV c = c.toNat - 48 := by rw [nibV, hx]; omega
            have hix : 0 ≤ Lib.indexByte hexD c := by rw [hx]; omega
            have hw49 : IntKind.i64.wrap (((nV ((s.drop (2 * j)).take k) * 16 : Nat) : Int) + ((c.toNat : Int) - 48)) = ((nV ((s.drop (2 * j)).take (k + 1)) : Nat) : Int) := by rw [wrap_i64 (by omega) (by omega)]; omega
            clear hbad
            refine kS ?_;refine wc_seq ?_;refine wc_block ?_;refine sR ?_;iterate 3 refine rC ?_
            refine rQ (add_int (m := ((2 * j + k : Nat) : Int)) tab_ok rfl rfl hw26) ?_;refine rQ (index_s (l := s) (m := 2 * j + k) tab_ok rfl rfl rfl hc) ?_;refine rQ (conv_int (m := (c.toNat : Int)) tab_ok rfl rfl rfl hw28) ?_
            refine rC ?_;refine nR ?_;refine rC ?_;refine rQ (sub_int tab_ok rfl rfl hw30) ?_;refine rC ?_;refine nQ ?_;refine sR ?_;iterate 3 refine rC ?_
            iterate 2 refine rS ?_
            refine rQ iF ?_;refine nS ?_;refine wG ?_;refine sR ?_;iterate 3 refine rC ?_
            refine rO ?_;refine rC ?_;refine rO ?_;refine rC ?_;refine rQ iF ?_;refine nS ?_;refine wF ?_;refine kS ?_;refine wc_region ?_;refine rC ?_;refine rQ (mul_int (m := ((nV ((s.drop (2 * j)).take k) * 16 : Nat) : Int)) tab_ok rfl rfl hw47) ?_
            refine rC ?_;refine rQ (add_int (m := ((nV ((s.drop (2 * j)).take (k + 1)) : Nat) : Int)) tab_ok rfl rfl hw49) ?_;refine rC ?_;refine reg_nil ?_;refine blk_n ?_
            refine seq_n ?_;refine wc_region ?_;refine rC ?_;refine rQ iD ?_;refine rC ?_;refine reg_nil ?_
            exact loop_n (k + 1) [] ⟨hk2, fun b hb => by rw [htk] at hb; rcases List.mem_append.1 hb with hb | hb; exact hkd b hb; rw [show b = c by simpa using hb]; exact hix, by omega⟩ (by omega) (.of rfl rfl rfl rfl rfl ⟨⟨_, rfl, .refl _⟩, rfl, ⟨_, rfl, .refl _⟩, rfl, ⟨_, rfl, .refl _⟩, rfl, ⟨_, rfl, .refl _⟩, rfl, ⟨_, rfl, .refl _⟩, rfl, trivial⟩ ⟨⟨rfl, rfl, _, rfl, .refl _⟩, trivial⟩)
    · have he : k = 2 := by have := of_decide_eq_false h4; omega
      subst he
      clear h4
      have hn255 : nV ((s.drop (2 * j)).take 2) ≤ 255 := by omega
      have hw52 : IntKind.u8.wrap ((nV ((s.drop (2 * j)).take 2) : Nat) : Int) = ((nV ((s.drop (2 * j)).take 2) : Nat) : Int) := wrap_u8n (by omega)
      have hw18 : IntKind.i64.wrap (((2 * j : Nat) : Int) + 2) = ((2 * (j + 1) : Nat) : Int) := by rw [wrap_i64 (by omega) (by omega)]; omega
      obtain ⟨a, ha⟩ : ∃ a, s[2 * j]? = some a := ⟨_, List.getElem?_eq_getElem (by omega)⟩
      obtain ⟨b, hb⟩ : ∃ b, s[2 * j + 1]? = some b := ⟨_, List.getElem?_eq_getElem (by omega)⟩
      have hab : (s.drop (2 * j)).take 2 = [a, b] := by
        rw [show (2 : Nat) = 0 + 1 + 1 from rfl, List.take_add_one, List.take_add_one, List.getElem?_drop, List.getElem?_drop]
        simp [ha, hb]
      have htk2 : s.take (2 * (j + 1)) = s.take (2 * j) ++ [a, b] := by
        rw [show 2 * (j + 1) = 2 * j + 1 + 1 by omega, List.take_add_one, List.take_add_one, ha, hb]
        simp
      have hpl : (s.take (2 * j)).length = 2 * j := by rw [List.length_take]; omega
      have hrow : pairsV (s.take (2 * (j + 1))) = pairsV (s.take (2 * j)) ++ [((nV ((s.drop (2 * j)).take 2) : Nat) : Int)] := by
        rw [htk2, pv_two _ _ _ (by omega), hab]
        simp [nV]
      have hlq : (pairsV (s.take (2 * (j + 1)))).length = (pairsV (s.take (2 * j))).length + 1 := by rw [hrow]; simp
      have hA : (pairsV (s.take (2 * j))).length + 1 ≤ 1048576 := by rw [pv_len, hpl]; omega
      rw [hab] at hkd
      refine wc_exit ?_;refine seq_x ?_;refine loop_x ?_;refine blk_x ?_;refine seq_n ?_;refine wc_region ?_;iterate 2 refine rC ?_
      refine rQ (conv_int (m := ((nV ((s.drop (2 * j)).take 2) : Nat) : Int)) tab_ok rfl rfl rfl hw52) ?_;refine reg_new (build_slice (s := 1) tab_ok rfl rfl rfl rfl rfl rfl rfl rfl) rfl ?_
      refine reg_new2 (append_one (xs := pairsV (s.take (2 * j))) (s := 1) (enc := encU8) tab_ok ((nV ((s.drop (2 * j)).take 2) : Nat) : Int) rfl rfl rfl rfl rfl rfl rfl rfl rfl hA rfl) rfl ?_
      refine rC ?_;refine reg_nil ?_;refine blk_n ?_;refine seq_n ?_;refine wc_region ?_;refine rC ?_;refine rQ (add_int (m := ((2 * (j + 1) : Nat) : Int)) tab_ok rfl rfl hw18) ?_
      refine rC ?_;refine reg_nil ?_
      exact loop_n (j + 1) [(65, some 120)] ⟨by omega, fun c hc => by rw [htk2] at hc; rcases List.mem_append.1 hc with hc | hc; exact hdig c hc; exact hkd c hc⟩ (by omega) (.of rfl rfl rfl rfl rfl ⟨⟨_, rfl, .refl _⟩, rfl, ⟨_, rfl, AVLe.of_eq (by rw [hlq]; rfl)⟩, rfl, ⟨_, rfl, .refl _⟩, rfl, trivial⟩ ⟨⟨rfl, rfl, _, rfl, RowLe.of_eq (by rw [hrow]; rfl)⟩, trivial⟩)
  · have hge : s.length ≤ 2 * j + 1 := by have := of_decide_eq_false h3; omega
    clear h3 hd
    refine wc_freeze (env' := [(4, _), (0, _)]) (h' := []) 65 _ rfl ⟨⟨_, rfl, Frz.own rfl⟩, ⟨_, rfl, .refl _⟩, trivial⟩ trivial ?_
    by_cases hz : s.length = 0
    · have hd0 : decide ((s.length : Int) = 0) = true := decide_eq_true (by omega)
      have hu : unhexP s = none := by rw [List.eq_nil_of_length_eq_zero hz]; rfl
      rw [hu]
      refine wc_exit ?_;refine seq_x ?_;refine loop_x ?_;refine blk_x ?_;refine seq_n ?_;refine qR ?_;refine rC ?_;refine rQ (len_s tab_ok rfl rfl) ?_;iterate 2 refine rC ?_
      iterate 4 refine rS ?_
      refine rQ iT ?_;refine nS ?_;refine wV ?_;refine sR ?_;iterate 2 refine rC ?_
      refine nS ?_;refine wc_ret ?_;refine seq_r ?_
      exact ⟨trivial, [], .of rfl rfl rfl rfl rfl ⟨⟨_, rfl, byR_nil⟩, rfl, trivial⟩ trivial⟩
    · have hd0 : decide ((s.length : Int) = 0) = false := decide_eq_false (by omega)
      have hne : s ≠ [] := fun e => hz (by rw [e]; rfl)
      by_cases hodd : s.length % 2 = 1
      · have hd1 : decide (0 < (s.length : Int).tmod 2) = true := decide_eq_true (by rw [show (s.length : Int).tmod 2 = ((s.length % 2 : Nat) : Int) from rfl]; omega)
        have hu : unhexP s = none := by rw [unhexP, if_neg h45, if_neg hne, pairs_odd s hodd]
        rw [hu]
        refine wc_exit ?_;refine seq_x ?_;refine loop_x ?_;refine blk_x ?_;refine seq_n ?_;refine qR ?_;refine rC ?_;refine rQ (len_s tab_ok rfl rfl) ?_;iterate 2 refine rC ?_
        refine rO ?_;refine rC ?_;refine rO ?_;refine rQ (len_s tab_ok rfl rfl) ?_;refine rO ?_;refine rQ (rem_int tab_ok rfl rfl (by decide)) ?_;refine rO ?_;refine rC ?_
        refine rQ iF ?_;refine nS ?_;refine wT ?_;refine sR ?_;iterate 2 refine rC ?_
        refine nS ?_;refine wc_ret ?_;refine seq_r ?_
        exact ⟨trivial, [], .of rfl rfl rfl rfl rfl ⟨⟨_, rfl, byR_nil⟩, rfl, trivial⟩ trivial⟩
      · have hd1 : decide (0 < (s.length : Int).tmod 2) = false := decide_eq_false (by rw [show (s.length : Int).tmod 2 = ((s.length % 2 : Nat) : Int) from rfl]; omega)
        have hj2 : 2 * j = s.length := by omega
        rw [hj2, List.take_length] at hdig ⊢
        obtain ⟨t, h1, h2⟩ := pairs_some s (by omega) hdig
        have hu : unhexP s = some t := by rw [unhexP, if_neg h45, if_neg hne, h1]
        rw [hu]
        rw [← h2]
        refine wc_exit ?_;refine seq_x ?_;refine loop_x ?_;refine blk_x ?_;refine seq_n ?_;refine qR ?_;refine rC ?_;refine rQ (len_s tab_ok rfl rfl) ?_;iterate 2 refine rC ?_
        refine rO ?_;refine rC ?_;refine rO ?_;refine rQ (len_s tab_ok rfl rfl) ?_;refine rO ?_;refine rQ (rem_int tab_ok rfl rfl (by decide)) ?_;refine rO ?_;refine rC ?_
        refine rQ iF ?_;refine nS ?_;refine wF ?_;refine kS ?_;refine sR ?_;iterate 3 refine rC ?_
        refine nS ?_;refine wc_ret ?_
        exact ⟨trivial, [], lf⟩
end Go.Proofs.YtmojbghcngdkpaaGreatDoor

namespace Go.Proofs.YtmojbghcngdkpaaGreatDoor
open Go.Eng Go.Plain
set_option maxHeartbeats 4000000
set_option maxRecDepth 20000
set_option linter.unusedVariables false
set_option linter.unusedSimpArgs false
attribute [local irreducible] WC RegS RegD SeqQ BlkQ ScoQ RegK CutK Sat SatN FnIs LoopQ StepIs OpIs
abbrev readA (o : Option POp) : AV := .tup (.acons (.d (encPOp (o.getD opNil))) (.acons (.int .i64 (o1 o)) .anil))
def finR (s : List UInt8) (o : Option POp) : Option POp := match o with
  | some o => if lineP o = s then some o else none
  | none => none
def op4 (o : Option Int) (x y : List UInt8) : Option POp := match o with
  | some k => Plain.opR k x y
  | none => none
theorem readR_of {s : List UInt8} {w : List (List UInt8)} (h : splitL s 32 = w) : readR s = finR s (wordsR w) := by
  unfold readR finR
  rw [h]
  cases wordsR w <;> rfl
theorem rread_1 (s : List UInt8) (hs : s.length ≤ 1048575) (a x : List UInt8) (ha : a = sRead) (hw : splitL s 32 = [a, x]) (k : Int) (hkv : k = 1) : FnIs Tryz.prog 99 [.d (strD s)] [] (readA (readR s)) [] := by
  have hcut : FnIs Tryz.prog 69 [.d (strD s), .int .u8 32] [] (.d (.arr 1 strD [a, x])) [] := by
    have := rcut_is s 32 hs
    rw [hw] at this
    exact this
  have hmem : ∀ q ∈ [a, x], q.length ≤ s.length := fun q hq => split_mem_le s 32 q (by rw [hw]; exact hq)
  have c0 : decide (a = sRead) = true := decide_eq_true ha
  have c1 : decide (a = sWrite) = false := decide_eq_false (by rw [ha]; decide)
  have c2 : decide (a = sFlush) = false := decide_eq_false (by rw [ha]; decide)
  have c3 : decide (a = sOp) = false := decide_eq_false (by rw [ha]; decide)
  have g0 : [a, x][((0 : Int)).toNat]? = some a := rfl
  have g1 : [a, x][((1 : Int)).toNat]? = some x := rfl
  have hW : wordsR [a, x] = Plain.opR k x [45] := by rw [ha, hkv]; rfl
  have hR := readR_of hw
  rw [hW] at hR
  have hk0 : 0 ≤ k := by omega
  have hk1 : k ≤ 255 := by omega
  have hxl := hmem x (by simp)
  have hi := rint_is x (by omega)
  obtain ⟨y, hy⟩ : ∃ y : List UInt8, y = [45] := ⟨_, rfl⟩
  rw [← hy] at hR
  have hyl : y.length ≤ 1000 := by rw [hy]; decide
  have hb := rbytes_is y (by omega)
  have hb0 : y = [45] := hy
  have hyl2 : ([45] : List UInt8).length ≤ 1000 := by decide
  subst hkv
  rw [hb0] at hb hR
  clear hb0
  cases hix : intR x with
  | none =>
    rw [hix] at hi
    have hu : readR s = none := by rw [hR, Plain.opR, hix]; rfl
    rw [hu]
    refine fnIs_of tab_ok Tryz.func99 rfl rfl rfl ?_
    cases hbx : unhexP [45] with
    | none =>
      rw [hbx] at hb
      refine sR ?_;refine rN ?_;refine rC ?_;refine nR ?_;refine rC ?_;refine rQ (call_r hcut rfl rfl (arg_e (arg_e arg_nil)) (.inl rfl) (fun _ => rfl)) ?_;refine rC ?_
      refine nR ?_;refine rQ iS ?_;refine rN ?_;refine rW ?_;refine nR ?_;iterate 2 refine rC ?_
      refine nQ ?_;refine wc_block ?_;refine sR ?_;refine rC ?_;refine rQ iA ?_;refine rQ iL ?_;refine rQ (eql_s (a := a) (b := sRead) tab_ok rfl rfl rfl) ?_;refine rC ?_
      refine rO ?_;refine rC ?_;refine rO ?_;refine rQ iE ?_;refine rO ?_;refine rC ?_;refine rQ iT ?_;refine rC ?_;refine nS ?_;refine wV ?_;refine sR ?_;refine rC ?_
      refine rX ?_;refine nS ?_;refine wc_region ?_;refine rC ?_;refine rQ iA ?_;refine rQ iL ?_;refine rC ?_;refine reg_nil ?_;refine blk_n ?_;refine seq_n ?_;refine sR ?_
      refine rC ?_;refine rQ (call_r hi rfl rfl (arg_e arg_nil) (.inl rfl) (fun _ => rfl)) ?_;iterate 5 refine rC ?_
      refine nR ?_;refine rC ?_;refine rQ (call_r hb rfl rfl (arg_e arg_nil) (.inl rfl) (fun _ => rfl)) ?_;iterate 5 refine rC ?_
      refine nR ?_;iterate 2 refine rC ?_
      refine rX ?_;refine nR ?_;iterate 2 refine rC ?_
      refine rX ?_;refine nQ ?_;refine sR ?_;iterate 3 refine rC ?_
      iterate 2 refine rT ?_
      refine rQ iU ?_;refine rC ?_;iterate 4 refine rT ?_
      refine rQ iU ?_;refine nS ?_;refine wV ?_;refine sR ?_;refine rQ iS ?_;refine rW ?_;refine rC ?_;refine nS ?_;refine wc_ret ?_;refine seq_r ?_
      exact ⟨trivial, _, rfl, [], .of rfl rfl rfl rfl rfl ⟨⟨_, rfl, AVLe.tup1 nil_op rfl⟩, rfl, trivial⟩ trivial⟩
    | some t =>
      rw [hbx] at hb
      refine sR ?_;refine rN ?_;refine rC ?_;refine nR ?_;refine rC ?_;refine rQ (call_r hcut rfl rfl (arg_e (arg_e arg_nil)) (.inl rfl) (fun _ => rfl)) ?_;refine rC ?_
      refine nR ?_;refine rQ iS ?_;refine rN ?_;refine rW ?_;refine nR ?_;iterate 2 refine rC ?_
      refine nQ ?_;refine wc_block ?_;refine sR ?_;refine rC ?_;refine rQ iA ?_;refine rQ iL ?_;refine rQ (eql_s (a := a) (b := sRead) tab_ok rfl rfl rfl) ?_;refine rC ?_
      refine rO ?_;refine rC ?_;refine rO ?_;refine rQ iE ?_;refine rO ?_;refine rC ?_;refine rQ iT ?_;refine rC ?_;refine nS ?_;refine wV ?_;refine sR ?_;refine rC ?_
      refine rX ?_;refine nS ?_;refine wc_region ?_;refine rC ?_;refine rQ iA ?_;refine rQ iL ?_;refine rC ?_;refine reg_nil ?_;refine blk_n ?_;refine seq_n ?_;refine sR ?_
      refine rC ?_;refine rQ (call_r hi rfl rfl (arg_e arg_nil) (.inl rfl) (fun _ => rfl)) ?_;iterate 5 refine rC ?_
      refine nR ?_;refine rC ?_;refine rQ (call_r hb rfl rfl (arg_e arg_nil) (.inl rfl) (fun _ => rfl)) ?_;iterate 5 refine rC ?_
      refine nR ?_;iterate 2 refine rC ?_
      refine rX ?_;refine nR ?_;iterate 2 refine rC ?_
      refine rX ?_;refine nQ ?_;refine sR ?_;iterate 3 refine rC ?_
      iterate 2 refine rT ?_
      refine rQ iU ?_;refine rC ?_;iterate 4 refine rT ?_
      refine rQ iU ?_;refine nS ?_;refine wV ?_;refine sR ?_;refine rQ iS ?_;refine rW ?_;refine rC ?_;refine nS ?_;refine wc_ret ?_;refine seq_r ?_
      exact ⟨trivial, _, rfl, [], .of rfl rfl rfl rfl rfl ⟨⟨_, rfl, AVLe.tup1 nil_op rfl⟩, rfl, trivial⟩ trivial⟩
  | some n =>
    rw [hix] at hi
    obtain ⟨_, hn0, hn1⟩ := int_some hix
    cases hbx : unhexP [45] with
    | none =>
      rw [hbx] at hb
      have hu : readR s = none := by rw [hR, Plain.opR, hix, hbx]; rfl
      rw [hu]
      refine fnIs_of tab_ok Tryz.func99 rfl rfl rfl ?_;refine sR ?_;refine rN ?_;refine rC ?_;refine nR ?_;refine rC ?_;refine rQ (call_r hcut rfl rfl (arg_e (arg_e arg_nil)) (.inl rfl) (fun _ => rfl)) ?_
      refine rC ?_;refine nR ?_;refine rQ iS ?_;refine rN ?_;refine rW ?_;refine nR ?_;iterate 2 refine rC ?_
      refine nQ ?_;refine wc_block ?_;refine sR ?_;refine rC ?_;refine rQ iA ?_;refine rQ iL ?_;refine rQ (eql_s (a := a) (b := sRead) tab_ok rfl rfl rfl) ?_;refine rC ?_
      refine rO ?_;refine rC ?_;refine rO ?_;refine rQ iE ?_;refine rO ?_;refine rC ?_;refine rQ iT ?_;refine rC ?_;refine nS ?_;refine wV ?_;refine sR ?_;refine rC ?_
      refine rX ?_;refine nS ?_;refine wc_region ?_;refine rC ?_;refine rQ iA ?_;refine rQ iL ?_;refine rC ?_;refine reg_nil ?_;refine blk_n ?_;refine seq_n ?_;refine sR ?_
      refine rC ?_;refine rQ (call_r hi rfl rfl (arg_e arg_nil) (.inl rfl) (fun _ => rfl)) ?_;iterate 5 refine rC ?_
      refine nR ?_;refine rC ?_;refine rQ (call_r hb rfl rfl (arg_e arg_nil) (.inl rfl) (fun _ => rfl)) ?_;iterate 5 refine rC ?_
      refine nR ?_;iterate 2 refine rC ?_
      refine rX ?_;refine nR ?_;iterate 2 refine rC ?_
      refine rX ?_;refine nQ ?_;refine sR ?_;iterate 3 refine rC ?_
      refine rP ?_;refine rC ?_;refine rP ?_;refine rC ?_;refine rQ iG ?_;refine rC ?_;iterate 4 refine rT ?_
      refine rQ iU ?_;refine nS ?_;refine wV ?_;refine sR ?_;refine rQ iS ?_;refine rW ?_;refine rC ?_;refine nS ?_;refine wc_ret ?_;refine seq_r ?_
      exact ⟨trivial, _, rfl, [], .of rfl rfl rfl rfl rfl ⟨⟨_, rfl, AVLe.tup1 nil_op rfl⟩, rfl, trivial⟩ trivial⟩
    | some t =>
      rw [hbx] at hb
      have htl := unhex_len hbx
      have hline := rline_is ⟨1, n, t⟩ ⟨⟨hk0, hk1⟩, ⟨hn0, hn1⟩⟩ (by show t.length ≤ 1000000000; omega)
      have hR2 : readR s = if lineP ⟨1, n, t⟩ = s then some ⟨1, n, t⟩ else none := by rw [hR, Plain.opR, hix, hbx]; rfl
      by_cases hq : lineP ⟨1, n, t⟩ = s
      · have e3 : (!decide (lineP ⟨1, n, t⟩ = s)) = false := by rw [decide_eq_true hq]; rfl
        rw [hR2, if_pos hq]
        refine fnIs_of tab_ok Tryz.func99 rfl rfl rfl ?_;refine sR ?_;refine rN ?_;refine rC ?_;refine nR ?_;refine rC ?_;refine rQ (call_r hcut rfl rfl (arg_e (arg_e arg_nil)) (.inl rfl) (fun _ => rfl)) ?_
        refine rC ?_;refine nR ?_;refine rQ iS ?_;refine rN ?_;refine rW ?_;refine nR ?_;iterate 2 refine rC ?_
        refine nQ ?_;refine wc_block ?_;refine sR ?_;refine rC ?_;refine rQ iA ?_;refine rQ iL ?_;refine rQ (eql_s (a := a) (b := sRead) tab_ok rfl rfl rfl) ?_;refine rC ?_
        refine rO ?_;refine rC ?_;refine rO ?_;refine rQ iE ?_;refine rO ?_;refine rC ?_;refine rQ iT ?_;refine rC ?_;refine nS ?_;refine wV ?_;refine sR ?_;refine rC ?_
        refine rX ?_;refine nS ?_;refine wc_region ?_;refine rC ?_;refine rQ iA ?_;refine rQ iL ?_;refine rC ?_;refine reg_nil ?_;refine blk_n ?_;refine seq_n ?_;refine sR ?_
        refine rC ?_;refine rQ (call_r hi rfl rfl (arg_e arg_nil) (.inl rfl) (fun _ => rfl)) ?_;iterate 5 refine rC ?_
        refine nR ?_;refine rC ?_;refine rQ (call_r hb rfl rfl (arg_e arg_nil) (.inl rfl) (fun _ => rfl)) ?_;iterate 5 refine rC ?_
        refine nR ?_;iterate 2 refine rC ?_
        refine rX ?_;refine nR ?_;iterate 2 refine rC ?_
        refine rX ?_;refine nQ ?_;refine sR ?_;iterate 3 refine rC ?_
        refine rP ?_;refine rC ?_;refine rP ?_;refine rC ?_;refine rQ iG ?_;refine rC ?_;refine rP ?_;refine rQ iM ?_;refine rP ?_;refine rQ (call_r hline rfl rfl (arg_e arg_nil) (.inl rfl) (fun _ => rfl)) ?_
        refine rP ?_;refine rC ?_;refine rP ?_;refine rQ (neq_s (b := s) tab_ok rfl rfl rfl) ?_;refine rQ iG ?_;refine nS ?_;refine wF ?_;refine kS ?_;refine sR ?_;refine rQ iM ?_
        refine rW ?_;refine rC ?_;refine nS ?_;refine wc_ret ?_
        exact ⟨trivial, _, rfl, [], lf⟩
      · have e3 : (!decide (lineP ⟨1, n, t⟩ = s)) = true := by rw [decide_eq_false hq]; rfl
        rw [hR2, if_neg hq]
        refine fnIs_of tab_ok Tryz.func99 rfl rfl rfl ?_;refine sR ?_;refine rN ?_;refine rC ?_;refine nR ?_;refine rC ?_;refine rQ (call_r hcut rfl rfl (arg_e (arg_e arg_nil)) (.inl rfl) (fun _ => rfl)) ?_
        refine rC ?_;refine nR ?_;refine rQ iS ?_;refine rN ?_;refine rW ?_;refine nR ?_;iterate 2 refine rC ?_
        refine nQ ?_;refine wc_block ?_;refine sR ?_;refine rC ?_;refine rQ iA ?_;refine rQ iL ?_;refine rQ (eql_s (a := a) (b := sRead) tab_ok rfl rfl rfl) ?_;refine rC ?_
        refine rO ?_;refine rC ?_;refine rO ?_;refine rQ iE ?_;refine rO ?_;refine rC ?_;refine rQ iT ?_;refine rC ?_;refine nS ?_;refine wV ?_;refine sR ?_;refine rC ?_
        refine rX ?_;refine nS ?_;refine wc_region ?_;refine rC ?_;refine rQ iA ?_;refine rQ iL ?_;refine rC ?_;refine reg_nil ?_;refine blk_n ?_;refine seq_n ?_;refine sR ?_
        refine rC ?_;refine rQ (call_r hi rfl rfl (arg_e arg_nil) (.inl rfl) (fun _ => rfl)) ?_;iterate 5 refine rC ?_
        refine nR ?_;refine rC ?_;refine rQ (call_r hb rfl rfl (arg_e arg_nil) (.inl rfl) (fun _ => rfl)) ?_;iterate 5 refine rC ?_
        refine nR ?_;iterate 2 refine rC ?_
        refine rX ?_;refine nR ?_;iterate 2 refine rC ?_
        refine rX ?_;refine nQ ?_;refine sR ?_;iterate 3 refine rC ?_
        refine rP ?_;refine rC ?_;refine rP ?_;refine rC ?_;refine rQ iG ?_;refine rC ?_;refine rP ?_;refine rQ iM ?_;refine rP ?_;refine rQ (call_r hline rfl rfl (arg_e arg_nil) (.inl rfl) (fun _ => rfl)) ?_
        refine rP ?_;refine rC ?_;refine rP ?_;refine rQ (neq_s (b := s) tab_ok rfl rfl rfl) ?_;refine rQ iG ?_;refine nS ?_;refine wT ?_;refine sR ?_;refine rQ iS ?_;refine rW ?_
        refine rC ?_;refine nS ?_;refine wc_ret ?_;refine seq_r ?_
        exact ⟨trivial, _, rfl, [], .of rfl rfl rfl rfl rfl ⟨⟨_, rfl, AVLe.tup1 nil_op rfl⟩, rfl, trivial⟩ trivial⟩
theorem rread_2 (s : List UInt8) (hs : s.length ≤ 1048575) (a x y : List UInt8) (ha : a = sWrite) (hw : splitL s 32 = [a, x, y]) (k : Int) (hkv : k = 2) : FnIs Tryz.prog 99 [.d (strD s)] [] (readA (readR s)) [] := by
  have hcut : FnIs Tryz.prog 69 [.d (strD s), .int .u8 32] [] (.d (.arr 1 strD [a, x, y])) [] := by
    have := rcut_is s 32 hs
    rw [hw] at this
    exact this
  have hmem : ∀ q ∈ [a, x, y], q.length ≤ s.length := fun q hq => split_mem_le s 32 q (by rw [hw]; exact hq)
  have c0 : decide (a = sRead) = false := decide_eq_false (by rw [ha]; decide)
  have c1 : decide (a = sWrite) = true := decide_eq_true ha
  have c2 : decide (a = sFlush) = false := decide_eq_false (by rw [ha]; decide)
  have c3 : decide (a = sOp) = false := decide_eq_false (by rw [ha]; decide)
  have g0 : [a, x, y][((0 : Int)).toNat]? = some a := rfl
  have g1 : [a, x, y][((1 : Int)).toNat]? = some x := rfl
  have g2 : [a, x, y][((2 : Int)).toNat]? = some y := rfl
  have hW : wordsR [a, x, y] = Plain.opR k x y := by rw [ha, hkv]; rfl
  have hR := readR_of hw
  rw [hW] at hR
  have hk0 : 0 ≤ k := by omega
  have hk1 : k ≤ 255 := by omega
  have hxl := hmem x (by simp)
  have hyl := hmem y (by simp)
  have hi := rint_is x (by omega)
  have hb := rbytes_is y (by omega)
  subst hkv
  cases hix : intR x with
  | none =>
    rw [hix] at hi
    have hu : readR s = none := by rw [hR, Plain.opR, hix]; rfl
    rw [hu]
    refine fnIs_of tab_ok Tryz.func99 rfl rfl rfl ?_
    cases hbx : unhexP y with
    | none =>
      rw [hbx] at hb
      refine sR ?_;refine rN ?_;refine rC ?_;refine nR ?_;refine rC ?_;refine rQ (call_r hcut rfl rfl (arg_e (arg_e arg_nil)) (.inl rfl) (fun _ => rfl)) ?_;refine rC ?_
      refine nR ?_;refine rQ iS ?_;refine rN ?_;refine rW ?_;refine nR ?_;iterate 2 refine rC ?_
      refine nQ ?_;refine wc_block ?_;refine sR ?_;refine rC ?_;refine rQ iA ?_;refine rQ iL ?_;refine rQ (eql_s (a := a) (b := sRead) tab_ok rfl rfl rfl) ?_;refine rC ?_
      iterate 3 refine rS ?_
      refine rQ iF ?_;refine rC ?_;refine nS ?_;refine wG ?_;refine sR ?_;refine rC ?_;refine rQ iA ?_;refine rQ iL ?_;refine rQ (eql_s (a := a) (b := sWrite) tab_ok rfl rfl rfl) ?_
      refine rC ?_;refine rO ?_;refine rC ?_;refine rO ?_;refine rQ iE ?_;refine rO ?_;refine rC ?_;refine rQ iT ?_;refine rC ?_;refine nS ?_;refine wV ?_;refine sR ?_
      refine rC ?_;refine rX ?_;refine nR ?_;refine rC ?_;refine rQ iA ?_;refine rQ iL ?_;refine rC ?_;refine nS ?_;refine wc_region ?_;refine rC ?_;refine rQ iA ?_;refine rQ iL ?_
      refine rC ?_;refine reg_nil ?_;refine blk_n ?_;refine seq_n ?_;refine sR ?_;refine rC ?_;refine rQ (call_r hi rfl rfl (arg_e arg_nil) (.inl rfl) (fun _ => rfl)) ?_
      iterate 5 refine rC ?_
      refine nR ?_;refine rC ?_;refine rQ (call_r hb rfl rfl (arg_e arg_nil) (.inl rfl) (fun _ => rfl)) ?_;iterate 5 refine rC ?_
      refine nR ?_;iterate 2 refine rC ?_
      refine rX ?_;refine nR ?_;iterate 2 refine rC ?_
      refine rX ?_;refine nQ ?_;refine sR ?_;iterate 3 refine rC ?_
      iterate 2 refine rT ?_
      refine rQ iU ?_;refine rC ?_;iterate 4 refine rT ?_
      refine rQ iU ?_;refine nS ?_;refine wV ?_;refine sR ?_;refine rQ iS ?_;refine rW ?_;refine rC ?_;refine nS ?_;refine wc_ret ?_;refine seq_r ?_
      exact ⟨trivial, _, rfl, [], .of rfl rfl rfl rfl rfl ⟨⟨_, rfl, AVLe.tup1 nil_op rfl⟩, rfl, trivial⟩ trivial⟩
    | some t =>
      rw [hbx] at hb
      refine sR ?_;refine rN ?_;refine rC ?_;refine nR ?_;refine rC ?_;refine rQ (call_r hcut rfl rfl (arg_e (arg_e arg_nil)) (.inl rfl) (fun _ => rfl)) ?_;refine rC ?_
      refine nR ?_;refine rQ iS ?_;refine rN ?_;refine rW ?_;refine nR ?_;iterate 2 refine rC ?_
      refine nQ ?_;refine wc_block ?_;refine sR ?_;refine rC ?_;refine rQ iA ?_;refine rQ iL ?_;refine rQ (eql_s (a := a) (b := sRead) tab_ok rfl rfl rfl) ?_;refine rC ?_
      iterate 3 refine rS ?_
      refine rQ iF ?_;refine rC ?_;refine nS ?_;refine wG ?_;refine sR ?_;refine rC ?_;refine rQ iA ?_;refine rQ iL ?_;refine rQ (eql_s (a := a) (b := sWrite) tab_ok rfl rfl rfl) ?_
      refine rC ?_;refine rO ?_;refine rC ?_;refine rO ?_;refine rQ iE ?_;refine rO ?_;refine rC ?_;refine rQ iT ?_;refine rC ?_;refine nS ?_;refine wV ?_;refine sR ?_
      refine rC ?_;refine rX ?_;refine nR ?_;refine rC ?_;refine rQ iA ?_;refine rQ iL ?_;refine rC ?_;refine nS ?_;refine wc_region ?_;refine rC ?_;refine rQ iA ?_;refine rQ iL ?_
      refine rC ?_;refine reg_nil ?_;refine blk_n ?_;refine seq_n ?_;refine sR ?_;refine rC ?_;refine rQ (call_r hi rfl rfl (arg_e arg_nil) (.inl rfl) (fun _ => rfl)) ?_
      iterate 5 refine rC ?_
      refine nR ?_;refine rC ?_;refine rQ (call_r hb rfl rfl (arg_e arg_nil) (.inl rfl) (fun _ => rfl)) ?_;iterate 5 refine rC ?_
      refine nR ?_;iterate 2 refine rC ?_
      refine rX ?_;refine nR ?_;iterate 2 refine rC ?_
      refine rX ?_;refine nQ ?_;refine sR ?_;iterate 3 refine rC ?_
      iterate 2 refine rT ?_
      refine rQ iU ?_;refine rC ?_;iterate 4 refine rT ?_
      refine rQ iU ?_;refine nS ?_;refine wV ?_;refine sR ?_;refine rQ iS ?_;refine rW ?_;refine rC ?_;refine nS ?_;refine wc_ret ?_;refine seq_r ?_
      exact ⟨trivial, _, rfl, [], .of rfl rfl rfl rfl rfl ⟨⟨_, rfl, AVLe.tup1 nil_op rfl⟩, rfl, trivial⟩ trivial⟩
  | some n =>
    rw [hix] at hi
    obtain ⟨_, hn0, hn1⟩ := int_some hix
    cases hbx : unhexP y with
    | none =>
      rw [hbx] at hb
      have hu : readR s = none := by rw [hR, Plain.opR, hix, hbx]; rfl
      rw [hu]
      refine fnIs_of tab_ok Tryz.func99 rfl rfl rfl ?_;refine sR ?_;refine rN ?_;refine rC ?_;refine nR ?_;refine rC ?_;refine rQ (call_r hcut rfl rfl (arg_e (arg_e arg_nil)) (.inl rfl) (fun _ => rfl)) ?_
      refine rC ?_;refine nR ?_;refine rQ iS ?_;refine rN ?_;refine rW ?_;refine nR ?_;iterate 2 refine rC ?_
      refine nQ ?_;refine wc_block ?_;refine sR ?_;refine rC ?_;refine rQ iA ?_;refine rQ iL ?_;refine rQ (eql_s (a := a) (b := sRead) tab_ok rfl rfl rfl) ?_;refine rC ?_
      iterate 3 refine rS ?_
      refine rQ iF ?_;refine rC ?_;refine nS ?_;refine wG ?_;refine sR ?_;refine rC ?_;refine rQ iA ?_;refine rQ iL ?_;refine rQ (eql_s (a := a) (b := sWrite) tab_ok rfl rfl rfl) ?_
      refine rC ?_;refine rO ?_;refine rC ?_;refine rO ?_;refine rQ iE ?_;refine rO ?_;refine rC ?_;refine rQ iT ?_;refine rC ?_;refine nS ?_;refine wV ?_;refine sR ?_
      refine rC ?_;refine rX ?_;refine nR ?_;refine rC ?_;refine rQ iA ?_;refine rQ iL ?_;refine rC ?_;refine nS ?_;refine wc_region ?_;refine rC ?_;refine rQ iA ?_;refine rQ iL ?_
      refine rC ?_;refine reg_nil ?_;refine blk_n ?_;refine seq_n ?_;refine sR ?_;refine rC ?_;refine rQ (call_r hi rfl rfl (arg_e arg_nil) (.inl rfl) (fun _ => rfl)) ?_
      iterate 5 refine rC ?_
      refine nR ?_;refine rC ?_;refine rQ (call_r hb rfl rfl (arg_e arg_nil) (.inl rfl) (fun _ => rfl)) ?_;iterate 5 refine rC ?_
      refine nR ?_;iterate 2 refine rC ?_
      refine rX ?_;refine nR ?_;iterate 2 refine rC ?_
      refine rX ?_;refine nQ ?_;refine sR ?_;iterate 3 refine rC ?_
      refine rP ?_;refine rC ?_;refine rP ?_;refine rC ?_;refine rQ iG ?_;refine rC ?_;iterate 4 refine rT ?_
      refine rQ iU ?_;refine nS ?_;refine wV ?_;refine sR ?_;refine rQ iS ?_;refine rW ?_;refine rC ?_;refine nS ?_;refine wc_ret ?_;refine seq_r ?_
      exact ⟨trivial, _, rfl, [], .of rfl rfl rfl rfl rfl ⟨⟨_, rfl, AVLe.tup1 nil_op rfl⟩, rfl, trivial⟩ trivial⟩
    | some t =>
      rw [hbx] at hb
      have htl := unhex_len hbx
      have hline := rline_is ⟨2, n, t⟩ ⟨⟨hk0, hk1⟩, ⟨hn0, hn1⟩⟩ (by show t.length ≤ 1000000000; omega)
      have hR2 : readR s = if lineP ⟨2, n, t⟩ = s then some ⟨2, n, t⟩ else none := by rw [hR, Plain.opR, hix, hbx]; rfl
      by_cases hq : lineP ⟨2, n, t⟩ = s
      · have e3 : (!decide (lineP ⟨2, n, t⟩ = s)) = false := by rw [decide_eq_true hq]; rfl
        rw [hR2, if_pos hq]
        refine fnIs_of tab_ok Tryz.func99 rfl rfl rfl ?_;refine sR ?_;refine rN ?_;refine rC ?_;refine nR ?_;refine rC ?_;refine rQ (call_r hcut rfl rfl (arg_e (arg_e arg_nil)) (.inl rfl) (fun _ => rfl)) ?_
        refine rC ?_;refine nR ?_;refine rQ iS ?_;refine rN ?_;refine rW ?_;refine nR ?_;iterate 2 refine rC ?_
        refine nQ ?_;refine wc_block ?_;refine sR ?_;refine rC ?_;refine rQ iA ?_;refine rQ iL ?_;refine rQ (eql_s (a := a) (b := sRead) tab_ok rfl rfl rfl) ?_;refine rC ?_
        iterate 3 refine rS ?_
        refine rQ iF ?_;refine rC ?_;refine nS ?_;refine wG ?_;refine sR ?_;refine rC ?_;refine rQ iA ?_;refine rQ iL ?_;refine rQ (eql_s (a := a) (b := sWrite) tab_ok rfl rfl rfl) ?_
        refine rC ?_;refine rO ?_;refine rC ?_;refine rO ?_;refine rQ iE ?_;refine rO ?_;refine rC ?_;refine rQ iT ?_;refine rC ?_;refine nS ?_;refine wV ?_;refine sR ?_
        refine rC ?_;refine rX ?_;refine nR ?_;refine rC ?_;refine rQ iA ?_;refine rQ iL ?_;refine rC ?_;refine nS ?_;refine wc_region ?_;refine rC ?_;refine rQ iA ?_;refine rQ iL ?_
        refine rC ?_;refine reg_nil ?_;refine blk_n ?_;refine seq_n ?_;refine sR ?_;refine rC ?_;refine rQ (call_r hi rfl rfl (arg_e arg_nil) (.inl rfl) (fun _ => rfl)) ?_
        iterate 5 refine rC ?_
        refine nR ?_;refine rC ?_;refine rQ (call_r hb rfl rfl (arg_e arg_nil) (.inl rfl) (fun _ => rfl)) ?_;iterate 5 refine rC ?_
        refine nR ?_;iterate 2 refine rC ?_
        refine rX ?_;refine nR ?_;iterate 2 refine rC ?_
        refine rX ?_;refine nQ ?_;refine sR ?_;iterate 3 refine rC ?_
        refine rP ?_;refine rC ?_;refine rP ?_;refine rC ?_;refine rQ iG ?_;refine rC ?_;refine rP ?_;refine rQ iM ?_;refine rP ?_;refine rQ (call_r hline rfl rfl (arg_e arg_nil) (.inl rfl) (fun _ => rfl)) ?_
        refine rP ?_;refine rC ?_;refine rP ?_;refine rQ (neq_s (b := s) tab_ok rfl rfl rfl) ?_;refine rQ iG ?_;refine nS ?_;refine wF ?_;refine kS ?_;refine sR ?_;refine rQ iM ?_
        refine rW ?_;refine rC ?_;refine nS ?_;refine wc_ret ?_
        exact ⟨trivial, _, rfl, [], lf⟩
      · have e3 : (!decide (lineP ⟨2, n, t⟩ = s)) = true := by rw [decide_eq_false hq]; rfl
        rw [hR2, if_neg hq]
        refine fnIs_of tab_ok Tryz.func99 rfl rfl rfl ?_;refine sR ?_;refine rN ?_;refine rC ?_;refine nR ?_;refine rC ?_;refine rQ (call_r hcut rfl rfl (arg_e (arg_e arg_nil)) (.inl rfl) (fun _ => rfl)) ?_
        refine rC ?_;refine nR ?_;refine rQ iS ?_;refine rN ?_;refine rW ?_;refine nR ?_;iterate 2 refine rC ?_
        refine nQ ?_;refine wc_block ?_;refine sR ?_;refine rC ?_;refine rQ iA ?_;refine rQ iL ?_;refine rQ (eql_s (a := a) (b := sRead) tab_ok rfl rfl rfl) ?_;refine rC ?_
        iterate 3 refine rS ?_
        refine rQ iF ?_;refine rC ?_;refine nS ?_;refine wG ?_;refine sR ?_;refine rC ?_;refine rQ iA ?_;refine rQ iL ?_;refine rQ (eql_s (a := a) (b := sWrite) tab_ok rfl rfl rfl) ?_
        refine rC ?_;refine rO ?_;refine rC ?_;refine rO ?_;refine rQ iE ?_;refine rO ?_;refine rC ?_;refine rQ iT ?_;refine rC ?_;refine nS ?_;refine wV ?_;refine sR ?_
        refine rC ?_;refine rX ?_;refine nR ?_;refine rC ?_;refine rQ iA ?_;refine rQ iL ?_;refine rC ?_;refine nS ?_;refine wc_region ?_;refine rC ?_;refine rQ iA ?_;refine rQ iL ?_
        refine rC ?_;refine reg_nil ?_;refine blk_n ?_;refine seq_n ?_;refine sR ?_;refine rC ?_;refine rQ (call_r hi rfl rfl (arg_e arg_nil) (.inl rfl) (fun _ => rfl)) ?_
        iterate 5 refine rC ?_
        refine nR ?_;refine rC ?_;refine rQ (call_r hb rfl rfl (arg_e arg_nil) (.inl rfl) (fun _ => rfl)) ?_;iterate 5 refine rC ?_
        refine nR ?_;iterate 2 refine rC ?_
        refine rX ?_;refine nR ?_;iterate 2 refine rC ?_
        refine rX ?_;refine nQ ?_;refine sR ?_;iterate 3 refine rC ?_
        refine rP ?_;refine rC ?_;refine rP ?_;refine rC ?_;refine rQ iG ?_;refine rC ?_;refine rP ?_;refine rQ iM ?_;refine rP ?_;refine rQ (call_r hline rfl rfl (arg_e arg_nil) (.inl rfl) (fun _ => rfl)) ?_
        refine rP ?_;refine rC ?_;refine rP ?_;refine rQ (neq_s (b := s) tab_ok rfl rfl rfl) ?_;refine rQ iG ?_;refine nS ?_;refine wT ?_;refine sR ?_;refine rQ iS ?_;refine rW ?_
        refine rC ?_;refine nS ?_;refine wc_ret ?_;refine seq_r ?_
        exact ⟨trivial, _, rfl, [], .of rfl rfl rfl rfl rfl ⟨⟨_, rfl, AVLe.tup1 nil_op rfl⟩, rfl, trivial⟩ trivial⟩
theorem rread_3 (s : List UInt8) (hs : s.length ≤ 1048575) (a : List UInt8) (ha : a = sFlush) (hw : splitL s 32 = [a]) (k : Int) (hkv : k = 3) : FnIs Tryz.prog 99 [.d (strD s)] [] (readA (readR s)) [] := by
  have hcut : FnIs Tryz.prog 69 [.d (strD s), .int .u8 32] [] (.d (.arr 1 strD [a])) [] := by
    have := rcut_is s 32 hs
    rw [hw] at this
    exact this
  have hmem : ∀ q ∈ [a], q.length ≤ s.length := fun q hq => split_mem_le s 32 q (by rw [hw]; exact hq)
  have c0 : decide (a = sRead) = false := decide_eq_false (by rw [ha]; decide)
  have c1 : decide (a = sWrite) = false := decide_eq_false (by rw [ha]; decide)
  have c2 : decide (a = sFlush) = true := decide_eq_true ha
  have c3 : decide (a = sOp) = false := decide_eq_false (by rw [ha]; decide)
  have g0 : [a][((0 : Int)).toNat]? = some a := rfl
  have hW : wordsR [a] = Plain.opR k [48] [45] := by rw [ha, hkv]; rfl
  have hR := readR_of hw
  rw [hW] at hR
  have hk0 : 0 ≤ k := by omega
  have hk1 : k ≤ 255 := by omega
  have hi := rint_is [48] (by decide)
  have hb := rbytes_is [45] (by decide)
  have hyl : ([45] : List UInt8).length ≤ 1000 := by decide
  subst hkv
  cases hix : intR [48] with
  | none =>
    rw [hix] at hi
    have hu : readR s = none := by rw [hR, Plain.opR, hix]; rfl
    rw [hu]
    refine fnIs_of tab_ok Tryz.func99 rfl rfl rfl ?_
    cases hbx : unhexP [45] with
    | none =>
      rw [hbx] at hb
      refine sR ?_;refine rN ?_;refine rC ?_;refine nR ?_;refine rC ?_;refine rQ (call_r hcut rfl rfl (arg_e (arg_e arg_nil)) (.inl rfl) (fun _ => rfl)) ?_;refine rC ?_
      refine nR ?_;refine rQ iS ?_;refine rN ?_;refine rW ?_;refine nR ?_;iterate 2 refine rC ?_
      refine nQ ?_;refine wc_block ?_;refine sR ?_;refine rC ?_;refine rQ iA ?_;refine rQ iL ?_;refine rQ (eql_s (a := a) (b := sRead) tab_ok rfl rfl rfl) ?_;refine rC ?_
      iterate 3 refine rS ?_
      refine rQ iF ?_;refine rC ?_;refine nS ?_;refine wG ?_;refine sR ?_;refine rC ?_;refine rQ iA ?_;refine rQ iL ?_;refine rQ (eql_s (a := a) (b := sWrite) tab_ok rfl rfl rfl) ?_
      refine rC ?_;iterate 3 refine rS ?_
      refine rQ iF ?_;refine rC ?_;refine nS ?_;refine wG ?_;refine sR ?_;refine rC ?_;refine rQ iA ?_;refine rQ iL ?_;refine rQ (eql_s (a := a) (b := sFlush) tab_ok rfl rfl rfl) ?_
      refine rC ?_;refine rO ?_;refine rC ?_;refine rO ?_;refine rQ iE ?_;refine rO ?_;refine rC ?_;refine rQ iT ?_;refine rC ?_;refine nS ?_;refine wV ?_;refine wc_region ?_
      refine rC ?_;refine rX ?_;refine reg_nil ?_;refine blk_n ?_;refine seq_n ?_;refine sR ?_;refine rC ?_;refine rQ (call_r hi rfl rfl (arg_e arg_nil) (.inl rfl) (fun _ => rfl)) ?_
      iterate 5 refine rC ?_
      refine nR ?_;refine rC ?_;refine rQ (call_r hb rfl rfl (arg_e arg_nil) (.inl rfl) (fun _ => rfl)) ?_;iterate 5 refine rC ?_
      refine nR ?_;iterate 2 refine rC ?_
      refine rX ?_;refine nR ?_;iterate 2 refine rC ?_
      refine rX ?_;refine nQ ?_;refine sR ?_;iterate 3 refine rC ?_
      iterate 2 refine rT ?_
      refine rQ iU ?_;refine rC ?_;iterate 4 refine rT ?_
      refine rQ iU ?_;refine nS ?_;refine wV ?_;refine sR ?_;refine rQ iS ?_;refine rW ?_;refine rC ?_;refine nS ?_;refine wc_ret ?_;refine seq_r ?_
      exact ⟨trivial, _, rfl, [], .of rfl rfl rfl rfl rfl ⟨⟨_, rfl, AVLe.tup1 nil_op rfl⟩, rfl, trivial⟩ trivial⟩
    | some t =>
      rw [hbx] at hb
      refine sR ?_;refine rN ?_;refine rC ?_;refine nR ?_;refine rC ?_;refine rQ (call_r hcut rfl rfl (arg_e (arg_e arg_nil)) (.inl rfl) (fun _ => rfl)) ?_;refine rC ?_
      refine nR ?_;refine rQ iS ?_;refine rN ?_;refine rW ?_;refine nR ?_;iterate 2 refine rC ?_
      refine nQ ?_;refine wc_block ?_;refine sR ?_;refine rC ?_;refine rQ iA ?_;refine rQ iL ?_;refine rQ (eql_s (a := a) (b := sRead) tab_ok rfl rfl rfl) ?_;refine rC ?_
      iterate 3 refine rS ?_
      refine rQ iF ?_;refine rC ?_;refine nS ?_;refine wG ?_;refine sR ?_;refine rC ?_;refine rQ iA ?_;refine rQ iL ?_;refine rQ (eql_s (a := a) (b := sWrite) tab_ok rfl rfl rfl) ?_
      refine rC ?_;iterate 3 refine rS ?_
      refine rQ iF ?_;refine rC ?_;refine nS ?_;refine wG ?_;refine sR ?_;refine rC ?_;refine rQ iA ?_;refine rQ iL ?_;refine rQ (eql_s (a := a) (b := sFlush) tab_ok rfl rfl rfl) ?_
      refine rC ?_;refine rO ?_;refine rC ?_;refine rO ?_;refine rQ iE ?_;refine rO ?_;refine rC ?_;refine rQ iT ?_;refine rC ?_;refine nS ?_;refine wV ?_;refine wc_region ?_
      refine rC ?_;refine rX ?_;refine reg_nil ?_;refine blk_n ?_;refine seq_n ?_;refine sR ?_;refine rC ?_;refine rQ (call_r hi rfl rfl (arg_e arg_nil) (.inl rfl) (fun _ => rfl)) ?_
      iterate 5 refine rC ?_
      refine nR ?_;refine rC ?_;refine rQ (call_r hb rfl rfl (arg_e arg_nil) (.inl rfl) (fun _ => rfl)) ?_;iterate 5 refine rC ?_
      refine nR ?_;iterate 2 refine rC ?_
      refine rX ?_;refine nR ?_;iterate 2 refine rC ?_
      refine rX ?_;refine nQ ?_;refine sR ?_;iterate 3 refine rC ?_
      iterate 2 refine rT ?_
      refine rQ iU ?_;refine rC ?_;iterate 4 refine rT ?_
      refine rQ iU ?_;refine nS ?_;refine wV ?_;refine sR ?_;refine rQ iS ?_;refine rW ?_;refine rC ?_;refine nS ?_;refine wc_ret ?_;refine seq_r ?_
      exact ⟨trivial, _, rfl, [], .of rfl rfl rfl rfl rfl ⟨⟨_, rfl, AVLe.tup1 nil_op rfl⟩, rfl, trivial⟩ trivial⟩
  | some n =>
    rw [hix] at hi
    obtain ⟨_, hn0, hn1⟩ := int_some hix
    cases hbx : unhexP [45] with
    | none =>
      rw [hbx] at hb
      have hu : readR s = none := by rw [hR, Plain.opR, hix, hbx]; rfl
      rw [hu]
      refine fnIs_of tab_ok Tryz.func99 rfl rfl rfl ?_;refine sR ?_;refine rN ?_;refine rC ?_;refine nR ?_;refine rC ?_;refine rQ (call_r hcut rfl rfl (arg_e (arg_e arg_nil)) (.inl rfl) (fun _ => rfl)) ?_
      refine rC ?_;refine nR ?_;refine rQ iS ?_;refine rN ?_;refine rW ?_;refine nR ?_;iterate 2 refine rC ?_
      refine nQ ?_;refine wc_block ?_;refine sR ?_;refine rC ?_;refine rQ iA ?_;refine rQ iL ?_;refine rQ (eql_s (a := a) (b := sRead) tab_ok rfl rfl rfl) ?_;refine rC ?_
      iterate 3 refine rS ?_
      refine rQ iF ?_;refine rC ?_;refine nS ?_;refine wG ?_;refine sR ?_;refine rC ?_;refine rQ iA ?_;refine rQ iL ?_;refine rQ (eql_s (a := a) (b := sWrite) tab_ok rfl rfl rfl) ?_
      refine rC ?_;iterate 3 refine rS ?_
      refine rQ iF ?_;refine rC ?_;refine nS ?_;refine wG ?_;refine sR ?_;refine rC ?_;refine rQ iA ?_;refine rQ iL ?_;refine rQ (eql_s (a := a) (b := sFlush) tab_ok rfl rfl rfl) ?_
      refine rC ?_;refine rO ?_;refine rC ?_;refine rO ?_;refine rQ iE ?_;refine rO ?_;refine rC ?_;refine rQ iT ?_;refine rC ?_;refine nS ?_;refine wV ?_;refine wc_region ?_
      refine rC ?_;refine rX ?_;refine reg_nil ?_;refine blk_n ?_;refine seq_n ?_;refine sR ?_;refine rC ?_;refine rQ (call_r hi rfl rfl (arg_e arg_nil) (.inl rfl) (fun _ => rfl)) ?_
      iterate 5 refine rC ?_
      refine nR ?_;refine rC ?_;refine rQ (call_r hb rfl rfl (arg_e arg_nil) (.inl rfl) (fun _ => rfl)) ?_;iterate 5 refine rC ?_
      refine nR ?_;iterate 2 refine rC ?_
      refine rX ?_;refine nR ?_;iterate 2 refine rC ?_
      refine rX ?_;refine nQ ?_;refine sR ?_;iterate 3 refine rC ?_
      refine rP ?_;refine rC ?_;refine rP ?_;refine rC ?_;refine rQ iG ?_;refine rC ?_;iterate 4 refine rT ?_
      refine rQ iU ?_;refine nS ?_;refine wV ?_;refine sR ?_;refine rQ iS ?_;refine rW ?_;refine rC ?_;refine nS ?_;refine wc_ret ?_;refine seq_r ?_
      exact ⟨trivial, _, rfl, [], .of rfl rfl rfl rfl rfl ⟨⟨_, rfl, AVLe.tup1 nil_op rfl⟩, rfl, trivial⟩ trivial⟩
    | some t =>
      rw [hbx] at hb
      have htl := unhex_len hbx
      have hline := rline_is ⟨3, n, t⟩ ⟨⟨hk0, hk1⟩, ⟨hn0, hn1⟩⟩ (by show t.length ≤ 1000000000; omega)
      have hR2 : readR s = if lineP ⟨3, n, t⟩ = s then some ⟨3, n, t⟩ else none := by rw [hR, Plain.opR, hix, hbx]; rfl
      by_cases hq : lineP ⟨3, n, t⟩ = s
      · have e3 : (!decide (lineP ⟨3, n, t⟩ = s)) = false := by rw [decide_eq_true hq]; rfl
        rw [hR2, if_pos hq]
        refine fnIs_of tab_ok Tryz.func99 rfl rfl rfl ?_;refine sR ?_;refine rN ?_;refine rC ?_;refine nR ?_;refine rC ?_;refine rQ (call_r hcut rfl rfl (arg_e (arg_e arg_nil)) (.inl rfl) (fun _ => rfl)) ?_
        refine rC ?_;refine nR ?_;refine rQ iS ?_;refine rN ?_;refine rW ?_;refine nR ?_;iterate 2 refine rC ?_
        refine nQ ?_;refine wc_block ?_;refine sR ?_;refine rC ?_;refine rQ iA ?_;refine rQ iL ?_;refine rQ (eql_s (a := a) (b := sRead) tab_ok rfl rfl rfl) ?_;refine rC ?_
        iterate 3 refine rS ?_
        refine rQ iF ?_;refine rC ?_;refine nS ?_;refine wG ?_;refine sR ?_;refine rC ?_;refine rQ iA ?_;refine rQ iL ?_;refine rQ (eql_s (a := a) (b := sWrite) tab_ok rfl rfl rfl) ?_
        refine rC ?_;iterate 3 refine rS ?_
        refine rQ iF ?_;refine rC ?_;refine nS ?_;refine wG ?_;refine sR ?_;refine rC ?_;refine rQ iA ?_;refine rQ iL ?_;refine rQ (eql_s (a := a) (b := sFlush) tab_ok rfl rfl rfl) ?_
        refine rC ?_;refine rO ?_;refine rC ?_;refine rO ?_;refine rQ iE ?_;refine rO ?_;refine rC ?_;refine rQ iT ?_;refine rC ?_;refine nS ?_;refine wV ?_;refine wc_region ?_
        refine rC ?_;refine rX ?_;refine reg_nil ?_;refine blk_n ?_;refine seq_n ?_;refine sR ?_;refine rC ?_;refine rQ (call_r hi rfl rfl (arg_e arg_nil) (.inl rfl) (fun _ => rfl)) ?_
        iterate 5 refine rC ?_
        refine nR ?_;refine rC ?_;refine rQ (call_r hb rfl rfl (arg_e arg_nil) (.inl rfl) (fun _ => rfl)) ?_;iterate 5 refine rC ?_
        refine nR ?_;iterate 2 refine rC ?_
        refine rX ?_;refine nR ?_;iterate 2 refine rC ?_
        refine rX ?_;refine nQ ?_;refine sR ?_;iterate 3 refine rC ?_
        refine rP ?_;refine rC ?_;refine rP ?_;refine rC ?_;refine rQ iG ?_;refine rC ?_;refine rP ?_;refine rQ iM ?_;refine rP ?_;refine rQ (call_r hline rfl rfl (arg_e arg_nil) (.inl rfl) (fun _ => rfl)) ?_
        refine rP ?_;refine rC ?_;refine rP ?_;refine rQ (neq_s (b := s) tab_ok rfl rfl rfl) ?_;refine rQ iG ?_;refine nS ?_;refine wF ?_;refine kS ?_;refine sR ?_;refine rQ iM ?_
        refine rW ?_;refine rC ?_;refine nS ?_;refine wc_ret ?_
        exact ⟨trivial, _, rfl, [], lf⟩
      · have e3 : (!decide (lineP ⟨3, n, t⟩ = s)) = true := by rw [decide_eq_false hq]; rfl
        rw [hR2, if_neg hq]
        refine fnIs_of tab_ok Tryz.func99 rfl rfl rfl ?_;refine sR ?_;refine rN ?_;refine rC ?_;refine nR ?_;refine rC ?_;refine rQ (call_r hcut rfl rfl (arg_e (arg_e arg_nil)) (.inl rfl) (fun _ => rfl)) ?_
        refine rC ?_;refine nR ?_;refine rQ iS ?_;refine rN ?_;refine rW ?_;refine nR ?_;iterate 2 refine rC ?_
        refine nQ ?_;refine wc_block ?_;refine sR ?_;refine rC ?_;refine rQ iA ?_;refine rQ iL ?_;refine rQ (eql_s (a := a) (b := sRead) tab_ok rfl rfl rfl) ?_;refine rC ?_
        iterate 3 refine rS ?_
        refine rQ iF ?_;refine rC ?_;refine nS ?_;refine wG ?_;refine sR ?_;refine rC ?_;refine rQ iA ?_;refine rQ iL ?_;refine rQ (eql_s (a := a) (b := sWrite) tab_ok rfl rfl rfl) ?_
        refine rC ?_;iterate 3 refine rS ?_
        refine rQ iF ?_;refine rC ?_;refine nS ?_;refine wG ?_;refine sR ?_;refine rC ?_;refine rQ iA ?_;refine rQ iL ?_;refine rQ (eql_s (a := a) (b := sFlush) tab_ok rfl rfl rfl) ?_
        refine rC ?_;refine rO ?_;refine rC ?_;refine rO ?_;refine rQ iE ?_;refine rO ?_;refine rC ?_;refine rQ iT ?_;refine rC ?_;refine nS ?_;refine wV ?_;refine wc_region ?_
        refine rC ?_;refine rX ?_;refine reg_nil ?_;refine blk_n ?_;refine seq_n ?_;refine sR ?_;refine rC ?_;refine rQ (call_r hi rfl rfl (arg_e arg_nil) (.inl rfl) (fun _ => rfl)) ?_
        iterate 5 refine rC ?_
        refine nR ?_;refine rC ?_;refine rQ (call_r hb rfl rfl (arg_e arg_nil) (.inl rfl) (fun _ => rfl)) ?_;iterate 5 refine rC ?_
        refine nR ?_;iterate 2 refine rC ?_
        refine rX ?_;refine nR ?_;iterate 2 refine rC ?_
        refine rX ?_;refine nQ ?_;refine sR ?_;iterate 3 refine rC ?_
        refine rP ?_;refine rC ?_;refine rP ?_;refine rC ?_;refine rQ iG ?_;refine rC ?_;refine rP ?_;refine rQ iM ?_;refine rP ?_;refine rQ (call_r hline rfl rfl (arg_e arg_nil) (.inl rfl) (fun _ => rfl)) ?_
        refine rP ?_;refine rC ?_;refine rP ?_;refine rQ (neq_s (b := s) tab_ok rfl rfl rfl) ?_;refine rQ iG ?_;refine nS ?_;refine wT ?_;refine sR ?_;refine rQ iS ?_;refine rW ?_
        refine rC ?_;refine nS ?_;refine wc_ret ?_;refine seq_r ?_
        exact ⟨trivial, _, rfl, [], .of rfl rfl rfl rfl rfl ⟨⟨_, rfl, AVLe.tup1 nil_op rfl⟩, rfl, trivial⟩ trivial⟩
theorem rread_4 (s : List UInt8) (hs : s.length ≤ 1048575) (a v x y : List UInt8) (ha : a = sOp) (hw : splitL s 32 = [a, v, x, y]) : FnIs Tryz.prog 99 [.d (strD s)] [] (readA (readR s)) [] := by
  have hcut : FnIs Tryz.prog 69 [.d (strD s), .int .u8 32] [] (.d (.arr 1 strD [a, v, x, y])) [] := by
    have := rcut_is s 32 hs
    rw [hw] at this
    exact this
  have hmem : ∀ q ∈ [a, v, x, y], q.length ≤ s.length := fun q hq => split_mem_le s 32 q (by rw [hw]; exact hq)
  have c0 : decide (a = sRead) = false := decide_eq_false (by rw [ha]; decide)
  have c1 : decide (a = sWrite) = false := decide_eq_false (by rw [ha]; decide)
  have c2 : decide (a = sFlush) = false := decide_eq_false (by rw [ha]; decide)
  have c3 : decide (a = sOp) = true := decide_eq_true ha
  have g0 : [a, v, x, y][((0 : Int)).toNat]? = some a := rfl
  have g1 : [a, v, x, y][((1 : Int)).toNat]? = some v := rfl
  have g2 : [a, v, x, y][((2 : Int)).toNat]? = some x := rfl
  have g3 : [a, v, x, y][((3 : Int)).toNat]? = some y := rfl
  have hW : wordsR [a, v, x, y] = op4 (kindR v) x y := by rw [ha]; rfl
  have hR := readR_of hw
  rw [hW] at hR
  have hvl := hmem v (by simp)
  have hxl := hmem x (by simp)
  have hyl := hmem y (by simp)
  have hk := rint_is v (by omega)
  have hi := rint_is x (by omega)
  have hb := rbytes_is y (by omega)
  cases hv : intR v with
  | none =>
    have hkr : kindR v = none := by rw [kindR, hv]
    rw [hkr] at hR
    rw [hv] at hk
    rw [hR]
    refine fnIs_of tab_ok Tryz.func99 rfl rfl rfl ?_;refine sR ?_;refine rN ?_;refine rC ?_;refine nR ?_;refine rC ?_;refine rQ (call_r hcut rfl rfl (arg_e (arg_e arg_nil)) (.inl rfl) (fun _ => rfl)) ?_
    refine rC ?_;refine nR ?_;refine rQ iS ?_;refine rN ?_;refine rW ?_;refine nR ?_;iterate 2 refine rC ?_
    refine nQ ?_;refine wc_block ?_;refine sR ?_;refine rC ?_;refine rQ iA ?_;refine rQ iL ?_;refine rQ (eql_s (a := a) (b := sRead) tab_ok rfl rfl rfl) ?_;refine rC ?_
    iterate 3 refine rS ?_
    refine rQ iF ?_;refine rC ?_;refine nS ?_;refine wG ?_;refine sR ?_;refine rC ?_;refine rQ iA ?_;refine rQ iL ?_;refine rQ (eql_s (a := a) (b := sWrite) tab_ok rfl rfl rfl) ?_
    refine rC ?_;iterate 3 refine rS ?_
    refine rQ iF ?_;refine rC ?_;refine nS ?_;refine wG ?_;refine sR ?_;refine rC ?_;refine rQ iA ?_;refine rQ iL ?_;refine rQ (eql_s (a := a) (b := sFlush) tab_ok rfl rfl rfl) ?_
    refine rC ?_;iterate 3 refine rS ?_
    refine rQ iF ?_;refine rC ?_;refine nS ?_;refine wG ?_;refine sR ?_;refine rC ?_;refine rQ iA ?_;refine rQ iL ?_;refine rQ (eql_s (a := a) (b := sOp) tab_ok rfl rfl rfl) ?_
    refine rC ?_;refine rO ?_;refine rC ?_;refine rO ?_;refine rQ iE ?_;refine rO ?_;refine rC ?_;refine rQ iT ?_;refine rC ?_;refine nS ?_;refine wV ?_;refine sR ?_
    refine rC ?_;refine rQ iA ?_;refine rQ iL ?_;refine rQ (call_r hk rfl rfl (arg_e arg_nil) (.inl rfl) (fun _ => rfl)) ?_;iterate 5 refine rC ?_
    refine nQ ?_;refine sR ?_;iterate 3 refine rC ?_
    iterate 2 refine rT ?_
    refine rQ iU ?_;refine rC ?_;iterate 2 refine rT ?_
    refine rQ iU ?_;refine nS ?_;refine wV ?_;refine sR ?_;refine rQ iS ?_;refine rW ?_;refine rC ?_;refine nS ?_;refine wc_ret ?_;refine seq_r ?_;refine blk_r ?_;refine seq_r ?_
    exact ⟨trivial, _, rfl, [], .of rfl rfl rfl rfl rfl ⟨⟨_, rfl, AVLe.tup1 nil_op rfl⟩, rfl, trivial⟩ trivial⟩
  | some k =>
    rw [hv] at hk
    by_cases q1 : k < 0
    · have d1 : decide (k < 0) = true := decide_eq_true q1
      have hkr : kindR v = none := by rw [kindR, hv]; simp [q1]
      rw [hkr] at hR
      rw [hR]
      refine fnIs_of tab_ok Tryz.func99 rfl rfl rfl ?_;refine sR ?_;refine rN ?_;refine rC ?_;refine nR ?_;refine rC ?_;refine rQ (call_r hcut rfl rfl (arg_e (arg_e arg_nil)) (.inl rfl) (fun _ => rfl)) ?_
      refine rC ?_;refine nR ?_;refine rQ iS ?_;refine rN ?_;refine rW ?_;refine nR ?_;iterate 2 refine rC ?_
      refine nQ ?_;refine wc_block ?_;refine sR ?_;refine rC ?_;refine rQ iA ?_;refine rQ iL ?_;refine rQ (eql_s (a := a) (b := sRead) tab_ok rfl rfl rfl) ?_;refine rC ?_
      iterate 3 refine rS ?_
      refine rQ iF ?_;refine rC ?_;refine nS ?_;refine wG ?_;refine sR ?_;refine rC ?_;refine rQ iA ?_;refine rQ iL ?_;refine rQ (eql_s (a := a) (b := sWrite) tab_ok rfl rfl rfl) ?_
      refine rC ?_;iterate 3 refine rS ?_
      refine rQ iF ?_;refine rC ?_;refine nS ?_;refine wG ?_;refine sR ?_;refine rC ?_;refine rQ iA ?_;refine rQ iL ?_;refine rQ (eql_s (a := a) (b := sFlush) tab_ok rfl rfl rfl) ?_
      refine rC ?_;iterate 3 refine rS ?_
      refine rQ iF ?_;refine rC ?_;refine nS ?_;refine wG ?_;refine sR ?_;refine rC ?_;refine rQ iA ?_;refine rQ iL ?_;refine rQ (eql_s (a := a) (b := sOp) tab_ok rfl rfl rfl) ?_
      refine rC ?_;refine rO ?_;refine rC ?_;refine rO ?_;refine rQ iE ?_;refine rO ?_;refine rC ?_;refine rQ iT ?_;refine rC ?_;refine nS ?_;refine wV ?_;refine sR ?_
      refine rC ?_;refine rQ iA ?_;refine rQ iL ?_;refine rQ (call_r hk rfl rfl (arg_e arg_nil) (.inl rfl) (fun _ => rfl)) ?_;iterate 5 refine rC ?_
      refine nQ ?_;refine sR ?_;iterate 3 refine rC ?_
      refine rP ?_;refine rC ?_;refine rP ?_;refine rC ?_;refine rQ iG ?_;refine rC ?_;iterate 2 refine rS ?_
      refine rQ iT ?_;refine nS ?_;refine wV ?_;refine sR ?_;refine rQ iS ?_;refine rW ?_;refine rC ?_;refine nS ?_;refine wc_ret ?_;refine seq_r ?_;refine blk_r ?_;refine seq_r ?_
      exact ⟨trivial, _, rfl, [], .of rfl rfl rfl rfl rfl ⟨⟨_, rfl, AVLe.tup1 nil_op rfl⟩, rfl, trivial⟩ trivial⟩
    have d1 : decide (k < 0) = false := decide_eq_false q1
    by_cases q2 : 255 < k
    · have d2 : decide (255 < k) = true := decide_eq_true q2
      have hkr : kindR v = none := by rw [kindR, hv]; simp [q2]
      rw [hkr] at hR
      rw [hR]
      refine fnIs_of tab_ok Tryz.func99 rfl rfl rfl ?_;refine sR ?_;refine rN ?_;refine rC ?_;refine nR ?_;refine rC ?_;refine rQ (call_r hcut rfl rfl (arg_e (arg_e arg_nil)) (.inl rfl) (fun _ => rfl)) ?_
      refine rC ?_;refine nR ?_;refine rQ iS ?_;refine rN ?_;refine rW ?_;refine nR ?_;iterate 2 refine rC ?_
      refine nQ ?_;refine wc_block ?_;refine sR ?_;refine rC ?_;refine rQ iA ?_;refine rQ iL ?_;refine rQ (eql_s (a := a) (b := sRead) tab_ok rfl rfl rfl) ?_;refine rC ?_
      iterate 3 refine rS ?_
      refine rQ iF ?_;refine rC ?_;refine nS ?_;refine wG ?_;refine sR ?_;refine rC ?_;refine rQ iA ?_;refine rQ iL ?_;refine rQ (eql_s (a := a) (b := sWrite) tab_ok rfl rfl rfl) ?_
      refine rC ?_;iterate 3 refine rS ?_
      refine rQ iF ?_;refine rC ?_;refine nS ?_;refine wG ?_;refine sR ?_;refine rC ?_;refine rQ iA ?_;refine rQ iL ?_;refine rQ (eql_s (a := a) (b := sFlush) tab_ok rfl rfl rfl) ?_
      refine rC ?_;iterate 3 refine rS ?_
      refine rQ iF ?_;refine rC ?_;refine nS ?_;refine wG ?_;refine sR ?_;refine rC ?_;refine rQ iA ?_;refine rQ iL ?_;refine rQ (eql_s (a := a) (b := sOp) tab_ok rfl rfl rfl) ?_
      refine rC ?_;refine rO ?_;refine rC ?_;refine rO ?_;refine rQ iE ?_;refine rO ?_;refine rC ?_;refine rQ iT ?_;refine rC ?_;refine nS ?_;refine wV ?_;refine sR ?_
      refine rC ?_;refine rQ iA ?_;refine rQ iL ?_;refine rQ (call_r hk rfl rfl (arg_e arg_nil) (.inl rfl) (fun _ => rfl)) ?_;iterate 5 refine rC ?_
      refine nQ ?_;refine sR ?_;iterate 3 refine rC ?_
      refine rP ?_;refine rC ?_;refine rP ?_;refine rC ?_;refine rQ iG ?_;refine rC ?_;refine rO ?_;refine rC ?_;refine rO ?_;refine rC ?_;refine rQ iF ?_;refine nS ?_
      refine wT ?_;refine sR ?_;refine rQ iS ?_;refine rW ?_;refine rC ?_;refine nS ?_;refine wc_ret ?_;refine seq_r ?_;refine blk_r ?_;refine seq_r ?_
      exact ⟨trivial, _, rfl, [], .of rfl rfl rfl rfl rfl ⟨⟨_, rfl, AVLe.tup1 nil_op rfl⟩, rfl, trivial⟩ trivial⟩
    have d2 : decide (255 < k) = false := decide_eq_false q2
    have hkr : kindR v = some k := by rw [kindR, hv]; simp [q1, q2]
    rw [hkr] at hR
    replace hR : readR s = finR s (Plain.opR k x y) := hR
    have hk0 : 0 ≤ k := by omega
    have hk1 : k ≤ 255 := by omega
    have hwk : IntKind.u8.wrap k = k := by
      have := wrap_u8n (a := k.toNat) (by omega)
      rwa [show ((k.toNat : Nat) : Int) = k by omega] at this
    cases hix : intR x with
    | none =>
      rw [hix] at hi
      have hu : readR s = none := by rw [hR, Plain.opR, hix]; rfl
      rw [hu]
      refine fnIs_of tab_ok Tryz.func99 rfl rfl rfl ?_
      cases hbx : unhexP y with
      | none =>
        rw [hbx] at hb
        refine sR ?_;refine rN ?_;refine rC ?_;refine nR ?_;refine rC ?_;refine rQ (call_r hcut rfl rfl (arg_e (arg_e arg_nil)) (.inl rfl) (fun _ => rfl)) ?_;refine rC ?_
        refine nR ?_;refine rQ iS ?_;refine rN ?_;refine rW ?_;refine nR ?_;iterate 2 refine rC ?_
        refine nQ ?_;refine wc_block ?_;refine sR ?_;refine rC ?_;refine rQ iA ?_;refine rQ iL ?_;refine rQ (eql_s (a := a) (b := sRead) tab_ok rfl rfl rfl) ?_;refine rC ?_
        iterate 3 refine rS ?_
        refine rQ iF ?_;refine rC ?_;refine nS ?_;refine wG ?_;refine sR ?_;refine rC ?_;refine rQ iA ?_;refine rQ iL ?_;refine rQ (eql_s (a := a) (b := sWrite) tab_ok rfl rfl rfl) ?_
        refine rC ?_;iterate 3 refine rS ?_
        refine rQ iF ?_;refine rC ?_;refine nS ?_;refine wG ?_;refine sR ?_;refine rC ?_;refine rQ iA ?_;refine rQ iL ?_;refine rQ (eql_s (a := a) (b := sFlush) tab_ok rfl rfl rfl) ?_
        refine rC ?_;iterate 3 refine rS ?_
        refine rQ iF ?_;refine rC ?_;refine nS ?_;refine wG ?_;refine sR ?_;refine rC ?_;refine rQ iA ?_;refine rQ iL ?_;refine rQ (eql_s (a := a) (b := sOp) tab_ok rfl rfl rfl) ?_
        refine rC ?_;refine rO ?_;refine rC ?_;refine rO ?_;refine rQ iE ?_;refine rO ?_;refine rC ?_;refine rQ iT ?_;refine rC ?_;refine nS ?_;refine wV ?_;refine sR ?_
        refine rC ?_;refine rQ iA ?_;refine rQ iL ?_;refine rQ (call_r hk rfl rfl (arg_e arg_nil) (.inl rfl) (fun _ => rfl)) ?_;iterate 5 refine rC ?_
        refine nQ ?_;refine sR ?_;iterate 3 refine rC ?_
        refine rP ?_;refine rC ?_;refine rP ?_;refine rC ?_;refine rQ iG ?_;refine rC ?_;refine rO ?_;refine rC ?_;refine rO ?_;refine rC ?_;refine rQ iF ?_;refine nS ?_
        refine wF ?_;refine kS ?_;refine sR ?_;refine rC ?_;refine rQ (conv_int (m := k) tab_ok rfl rfl rfl hwk) ?_;refine rC ?_;refine rX ?_;refine nR ?_;refine rC ?_;refine rQ iA ?_
        refine rQ iL ?_;refine rC ?_;refine nS ?_;refine wc_region ?_;refine rC ?_;refine rQ iA ?_;refine rQ iL ?_;refine rC ?_;refine reg_nil ?_;refine blk_n ?_;refine seq_n ?_
        refine sR ?_;refine rC ?_;refine rQ (call_r hi rfl rfl (arg_e arg_nil) (.inl rfl) (fun _ => rfl)) ?_;iterate 5 refine rC ?_
        refine nR ?_;refine rC ?_;refine rQ (call_r hb rfl rfl (arg_e arg_nil) (.inl rfl) (fun _ => rfl)) ?_;iterate 5 refine rC ?_
        refine nR ?_;iterate 2 refine rC ?_
        refine rX ?_;refine nR ?_;iterate 2 refine rC ?_
        refine rX ?_;refine nQ ?_;refine sR ?_;iterate 3 refine rC ?_
        iterate 2 refine rT ?_
        refine rQ iU ?_;refine rC ?_;iterate 4 refine rT ?_
        refine rQ iU ?_;refine nS ?_;refine wV ?_;refine sR ?_;refine rQ iS ?_;refine rW ?_;refine rC ?_;refine nS ?_;refine wc_ret ?_;refine seq_r ?_
        exact ⟨trivial, _, rfl, [], .of rfl rfl rfl rfl rfl ⟨⟨_, rfl, AVLe.tup1 nil_op rfl⟩, rfl, trivial⟩ trivial⟩
      | some t =>
        rw [hbx] at hb
        refine sR ?_;refine rN ?_;refine rC ?_;refine nR ?_;refine rC ?_;refine rQ (call_r hcut rfl rfl (arg_e (arg_e arg_nil)) (.inl rfl) (fun _ => rfl)) ?_;refine rC ?_
        refine nR ?_;refine rQ iS ?_;refine rN ?_;refine rW ?_;refine nR ?_;iterate 2 refine rC ?_
        refine nQ ?_;refine wc_block ?_;refine sR ?_;refine rC ?_;refine rQ iA ?_;refine rQ iL ?_;refine rQ (eql_s (a := a) (b := sRead) tab_ok rfl rfl rfl) ?_;refine rC ?_
        iterate 3 refine rS ?_
        refine rQ iF ?_;refine rC ?_;refine nS ?_;refine wG ?_;refine sR ?_;refine rC ?_;refine rQ iA ?_;refine rQ iL ?_;refine rQ (eql_s (a := a) (b := sWrite) tab_ok rfl rfl rfl) ?_
        refine rC ?_;iterate 3 refine rS ?_
        refine rQ iF ?_;refine rC ?_;refine nS ?_;refine wG ?_;refine sR ?_;refine rC ?_;refine rQ iA ?_;refine rQ iL ?_;refine rQ (eql_s (a := a) (b := sFlush) tab_ok rfl rfl rfl) ?_
        refine rC ?_;iterate 3 refine rS ?_
        refine rQ iF ?_;refine rC ?_;refine nS ?_;refine wG ?_;refine sR ?_;refine rC ?_;refine rQ iA ?_;refine rQ iL ?_;refine rQ (eql_s (a := a) (b := sOp) tab_ok rfl rfl rfl) ?_
        refine rC ?_;refine rO ?_;refine rC ?_;refine rO ?_;refine rQ iE ?_;refine rO ?_;refine rC ?_;refine rQ iT ?_;refine rC ?_;refine nS ?_;refine wV ?_;refine sR ?_
        refine rC ?_;refine rQ iA ?_;refine rQ iL ?_;refine rQ (call_r hk rfl rfl (arg_e arg_nil) (.inl rfl) (fun _ => rfl)) ?_;iterate 5 refine rC ?_
        refine nQ ?_;refine sR ?_;iterate 3 refine rC ?_
        refine rP ?_;refine rC ?_;refine rP ?_;refine rC ?_;refine rQ iG ?_;refine rC ?_;refine rO ?_;refine rC ?_;refine rO ?_;refine rC ?_;refine rQ iF ?_;refine nS ?_
        refine wF ?_;refine kS ?_;refine sR ?_;refine rC ?_;refine rQ (conv_int (m := k) tab_ok rfl rfl rfl hwk) ?_;refine rC ?_;refine rX ?_;refine nR ?_;refine rC ?_;refine rQ iA ?_
        refine rQ iL ?_;refine rC ?_;refine nS ?_;refine wc_region ?_;refine rC ?_;refine rQ iA ?_;refine rQ iL ?_;refine rC ?_;refine reg_nil ?_;refine blk_n ?_;refine seq_n ?_
        refine sR ?_;refine rC ?_;refine rQ (call_r hi rfl rfl (arg_e arg_nil) (.inl rfl) (fun _ => rfl)) ?_;iterate 5 refine rC ?_
        refine nR ?_;refine rC ?_;refine rQ (call_r hb rfl rfl (arg_e arg_nil) (.inl rfl) (fun _ => rfl)) ?_;iterate 5 refine rC ?_
        refine nR ?_;iterate 2 refine rC ?_
        refine rX ?_;refine nR ?_;iterate 2 refine rC ?_
        refine rX ?_;refine nQ ?_;refine sR ?_;iterate 3 refine rC ?_
        iterate 2 refine rT ?_
        refine rQ iU ?_;refine rC ?_;iterate 4 refine rT ?_
        refine rQ iU ?_;refine nS ?_;refine wV ?_;refine sR ?_;refine rQ iS ?_;refine rW ?_;refine rC ?_;refine nS ?_;refine wc_ret ?_;refine seq_r ?_
        exact ⟨trivial, _, rfl, [], .of rfl rfl rfl rfl rfl ⟨⟨_, rfl, AVLe.tup1 nil_op rfl⟩, rfl, trivial⟩ trivial⟩
    | some n =>
      rw [hix] at hi
      obtain ⟨_, hn0, hn1⟩ := int_some hix
      cases hbx : unhexP y with
      | none =>
        rw [hbx] at hb
        have hu : readR s = none := by rw [hR, Plain.opR, hix, hbx]; rfl
        rw [hu]
        refine fnIs_of tab_ok Tryz.func99 rfl rfl rfl ?_;refine sR ?_;refine rN ?_;refine rC ?_;refine nR ?_;refine rC ?_;refine rQ (call_r hcut rfl rfl (arg_e (arg_e arg_nil)) (.inl rfl) (fun _ => rfl)) ?_
        refine rC ?_;refine nR ?_;refine rQ iS ?_;refine rN ?_;refine rW ?_;refine nR ?_;iterate 2 refine rC ?_
        refine nQ ?_;refine wc_block ?_;refine sR ?_;refine rC ?_;refine rQ iA ?_;refine rQ iL ?_;refine rQ (eql_s (a := a) (b := sRead) tab_ok rfl rfl rfl) ?_;refine rC ?_
        iterate 3 refine rS ?_
        refine rQ iF ?_;refine rC ?_;refine nS ?_;refine wG ?_;refine sR ?_;refine rC ?_;refine rQ iA ?_;refine rQ iL ?_;refine rQ (eql_s (a := a) (b := sWrite) tab_ok rfl rfl rfl) ?_
        refine rC ?_;iterate 3 refine rS ?_
        refine rQ iF ?_;refine rC ?_;refine nS ?_;refine wG ?_;refine sR ?_;refine rC ?_;refine rQ iA ?_;refine rQ iL ?_;refine rQ (eql_s (a := a) (b := sFlush) tab_ok rfl rfl rfl) ?_
        refine rC ?_;iterate 3 refine rS ?_
        refine rQ iF ?_;refine rC ?_;refine nS ?_;refine wG ?_;refine sR ?_;refine rC ?_;refine rQ iA ?_;refine rQ iL ?_;refine rQ (eql_s (a := a) (b := sOp) tab_ok rfl rfl rfl) ?_
        refine rC ?_;refine rO ?_;refine rC ?_;refine rO ?_;refine rQ iE ?_;refine rO ?_;refine rC ?_;refine rQ iT ?_;refine rC ?_;refine nS ?_;refine wV ?_;refine sR ?_
        refine rC ?_;refine rQ iA ?_;refine rQ iL ?_;refine rQ (call_r hk rfl rfl (arg_e arg_nil) (.inl rfl) (fun _ => rfl)) ?_;iterate 5 refine rC ?_
        refine nQ ?_;refine sR ?_;iterate 3 refine rC ?_
        refine rP ?_;refine rC ?_;refine rP ?_;refine rC ?_;refine rQ iG ?_;refine rC ?_;refine rO ?_;refine rC ?_;refine rO ?_;refine rC ?_;refine rQ iF ?_;refine nS ?_
        refine wF ?_;refine kS ?_;refine sR ?_;refine rC ?_;refine rQ (conv_int (m := k) tab_ok rfl rfl rfl hwk) ?_;refine rC ?_;refine rX ?_;refine nR ?_;refine rC ?_;refine rQ iA ?_
        refine rQ iL ?_;refine rC ?_;refine nS ?_;refine wc_region ?_;refine rC ?_;refine rQ iA ?_;refine rQ iL ?_;refine rC ?_;refine reg_nil ?_;refine blk_n ?_;refine seq_n ?_
        refine sR ?_;refine rC ?_;refine rQ (call_r hi rfl rfl (arg_e arg_nil) (.inl rfl) (fun _ => rfl)) ?_;iterate 5 refine rC ?_
        refine nR ?_;refine rC ?_;refine rQ (call_r hb rfl rfl (arg_e arg_nil) (.inl rfl) (fun _ => rfl)) ?_;iterate 5 refine rC ?_
        refine nR ?_;iterate 2 refine rC ?_
        refine rX ?_;refine nR ?_;iterate 2 refine rC ?_
        refine rX ?_;refine nQ ?_;refine sR ?_;iterate 3 refine rC ?_
        refine rP ?_;refine rC ?_;refine rP ?_;refine rC ?_;refine rQ iG ?_;refine rC ?_;iterate 4 refine rT ?_
        refine rQ iU ?_;refine nS ?_;refine wV ?_;refine sR ?_;refine rQ iS ?_;refine rW ?_;refine rC ?_;refine nS ?_;refine wc_ret ?_;refine seq_r ?_
        exact ⟨trivial, _, rfl, [], .of rfl rfl rfl rfl rfl ⟨⟨_, rfl, AVLe.tup1 nil_op rfl⟩, rfl, trivial⟩ trivial⟩
      | some t =>
        rw [hbx] at hb
        have htl := unhex_len hbx
        have hline := rline_is ⟨k, n, t⟩ ⟨⟨hk0, hk1⟩, ⟨hn0, hn1⟩⟩ (by show t.length ≤ 1000000000; omega)
        have hR2 : readR s = if lineP ⟨k, n, t⟩ = s then some ⟨k, n, t⟩ else none := by rw [hR, Plain.opR, hix, hbx]; rfl
        by_cases hq : lineP ⟨k, n, t⟩ = s
        · have e3 : (!decide (lineP ⟨k, n, t⟩ = s)) = false := by rw [decide_eq_true hq]; rfl
          rw [hR2, if_pos hq]
          refine fnIs_of tab_ok Tryz.func99 rfl rfl rfl ?_;refine sR ?_;refine rN ?_;refine rC ?_;refine nR ?_;refine rC ?_;refine rQ (call_r hcut rfl rfl (arg_e (arg_e arg_nil)) (.inl rfl) (fun _ => rfl)) ?_
          refine rC ?_;refine nR ?_;refine rQ iS ?_;refine rN ?_;refine rW ?_;refine nR ?_;iterate 2 refine rC ?_
          refine nQ ?_;refine wc_block ?_;refine sR ?_;refine rC ?_;refine rQ iA ?_;refine rQ iL ?_;refine rQ (eql_s (a := a) (b := sRead) tab_ok rfl rfl rfl) ?_;refine rC ?_
          iterate 3 refine rS ?_
          refine rQ iF ?_;refine rC ?_;refine nS ?_;refine wG ?_;refine sR ?_;refine rC ?_;refine rQ iA ?_;refine rQ iL ?_;refine rQ (eql_s (a := a) (b := sWrite) tab_ok rfl rfl rfl) ?_
          refine rC ?_;iterate 3 refine rS ?_
          refine rQ iF ?_;refine rC ?_;refine nS ?_;refine wG ?_;refine sR ?_;refine rC ?_;refine rQ iA ?_;refine rQ iL ?_;refine rQ (eql_s (a := a) (b := sFlush) tab_ok rfl rfl rfl) ?_
          refine rC ?_;iterate 3 refine rS ?_
          refine rQ iF ?_;refine rC ?_;refine nS ?_;refine wG ?_;refine sR ?_;refine rC ?_;refine rQ iA ?_;refine rQ iL ?_;refine rQ (eql_s (a := a) (b := sOp) tab_ok rfl rfl rfl) ?_
          refine rC ?_;refine rO ?_;refine rC ?_;refine rO ?_;refine rQ iE ?_;refine rO ?_;refine rC ?_;refine rQ iT ?_;refine rC ?_;refine nS ?_;refine wV ?_;refine sR ?_
          refine rC ?_;refine rQ iA ?_;refine rQ iL ?_;refine rQ (call_r hk rfl rfl (arg_e arg_nil) (.inl rfl) (fun _ => rfl)) ?_;iterate 5 refine rC ?_
          refine nQ ?_;refine sR ?_;iterate 3 refine rC ?_
          refine rP ?_;refine rC ?_;refine rP ?_;refine rC ?_;refine rQ iG ?_;refine rC ?_;refine rO ?_;refine rC ?_;refine rO ?_;refine rC ?_;refine rQ iF ?_;refine nS ?_
          refine wF ?_;refine kS ?_;refine sR ?_;refine rC ?_;refine rQ (conv_int (m := k) tab_ok rfl rfl rfl hwk) ?_;refine rC ?_;refine rX ?_;refine nR ?_;refine rC ?_;refine rQ iA ?_
          refine rQ iL ?_;refine rC ?_;refine nS ?_;refine wc_region ?_;refine rC ?_;refine rQ iA ?_;refine rQ iL ?_;refine rC ?_;refine reg_nil ?_;refine blk_n ?_;refine seq_n ?_
          refine sR ?_;refine rC ?_;refine rQ (call_r hi rfl rfl (arg_e arg_nil) (.inl rfl) (fun _ => rfl)) ?_;iterate 5 refine rC ?_
          refine nR ?_;refine rC ?_;refine rQ (call_r hb rfl rfl (arg_e arg_nil) (.inl rfl) (fun _ => rfl)) ?_;iterate 5 refine rC ?_
          refine nR ?_;iterate 2 refine rC ?_
          refine rX ?_;refine nR ?_;iterate 2 refine rC ?_
          refine rX ?_;refine nQ ?_;refine sR ?_;iterate 3 refine rC ?_
          refine rP ?_;refine rC ?_;refine rP ?_;refine rC ?_;refine rQ iG ?_;refine rC ?_;refine rP ?_;refine rQ iM ?_;refine rP ?_;refine rQ (call_r hline rfl rfl (arg_e arg_nil) (.inl rfl) (fun _ => rfl)) ?_
          refine rP ?_;refine rC ?_;refine rP ?_;refine rQ (neq_s (b := s) tab_ok rfl rfl rfl) ?_;refine rQ iG ?_;refine nS ?_;refine wF ?_;refine kS ?_;refine sR ?_;refine rQ iM ?_
          refine rW ?_;refine rC ?_;refine nS ?_;refine wc_ret ?_
          exact ⟨trivial, _, rfl, [], lf⟩
        · have e3 : (!decide (lineP ⟨k, n, t⟩ = s)) = true := by rw [decide_eq_false hq]; rfl
          rw [hR2, if_neg hq]
          refine fnIs_of tab_ok Tryz.func99 rfl rfl rfl ?_;refine sR ?_;refine rN ?_;refine rC ?_;refine nR ?_;refine rC ?_;refine rQ (call_r hcut rfl rfl (arg_e (arg_e arg_nil)) (.inl rfl) (fun _ => rfl)) ?_
          refine rC ?_;refine nR ?_;refine rQ iS ?_;refine rN ?_;refine rW ?_;refine nR ?_;iterate 2 refine rC ?_
          refine nQ ?_;refine wc_block ?_;refine sR ?_;refine rC ?_;refine rQ iA ?_;refine rQ iL ?_;refine rQ (eql_s (a := a) (b := sRead) tab_ok rfl rfl rfl) ?_;refine rC ?_
          iterate 3 refine rS ?_
          refine rQ iF ?_;refine rC ?_;refine nS ?_;refine wG ?_;refine sR ?_;refine rC ?_;refine rQ iA ?_;refine rQ iL ?_;refine rQ (eql_s (a := a) (b := sWrite) tab_ok rfl rfl rfl) ?_
          refine rC ?_;iterate 3 refine rS ?_
          refine rQ iF ?_;refine rC ?_;refine nS ?_;refine wG ?_;refine sR ?_;refine rC ?_;refine rQ iA ?_;refine rQ iL ?_;refine rQ (eql_s (a := a) (b := sFlush) tab_ok rfl rfl rfl) ?_
          refine rC ?_;iterate 3 refine rS ?_
          refine rQ iF ?_;refine rC ?_;refine nS ?_;refine wG ?_;refine sR ?_;refine rC ?_;refine rQ iA ?_;refine rQ iL ?_;refine rQ (eql_s (a := a) (b := sOp) tab_ok rfl rfl rfl) ?_
          refine rC ?_;refine rO ?_;refine rC ?_;refine rO ?_;refine rQ iE ?_;refine rO ?_;refine rC ?_;refine rQ iT ?_;refine rC ?_;refine nS ?_;refine wV ?_;refine sR ?_
          refine rC ?_;refine rQ iA ?_;refine rQ iL ?_;refine rQ (call_r hk rfl rfl (arg_e arg_nil) (.inl rfl) (fun _ => rfl)) ?_;iterate 5 refine rC ?_
          refine nQ ?_;refine sR ?_;iterate 3 refine rC ?_
          refine rP ?_;refine rC ?_;refine rP ?_;refine rC ?_;refine rQ iG ?_;refine rC ?_;refine rO ?_;refine rC ?_;refine rO ?_;refine rC ?_;refine rQ iF ?_;refine nS ?_
          refine wF ?_;refine kS ?_;refine sR ?_;refine rC ?_;refine rQ (conv_int (m := k) tab_ok rfl rfl rfl hwk) ?_;refine rC ?_;refine rX ?_;refine nR ?_;refine rC ?_;refine rQ iA ?_
          refine rQ iL ?_;refine rC ?_;refine nS ?_;refine wc_region ?_;refine rC ?_;refine rQ iA ?_;refine rQ iL ?_;refine rC ?_;refine reg_nil ?_;refine blk_n ?_;refine seq_n ?_
          refine sR ?_;refine rC ?_;refine rQ (call_r hi rfl rfl (arg_e arg_nil) (.inl rfl) (fun _ => rfl)) ?_;iterate 5 refine rC ?_
          refine nR ?_;refine rC ?_;refine rQ (call_r hb rfl rfl (arg_e arg_nil) (.inl rfl) (fun _ => rfl)) ?_;iterate 5 refine rC ?_
          refine nR ?_;iterate 2 refine rC ?_
          refine rX ?_;refine nR ?_;iterate 2 refine rC ?_
          refine rX ?_;refine nQ ?_;refine sR ?_;iterate 3 refine rC ?_
          refine rP ?_;refine rC ?_;refine rP ?_;refine rC ?_;refine rQ iG ?_;refine rC ?_;refine rP ?_;refine rQ iM ?_;refine rP ?_;refine rQ (call_r hline rfl rfl (arg_e arg_nil) (.inl rfl) (fun _ => rfl)) ?_
          refine rP ?_;refine rC ?_;refine rP ?_;refine rQ (neq_s (b := s) tab_ok rfl rfl rfl) ?_;refine rQ iG ?_;refine nS ?_;refine wT ?_;refine sR ?_;refine rQ iS ?_;refine rW ?_
          refine rC ?_;refine nS ?_;refine wc_ret ?_;refine seq_r ?_
          exact ⟨trivial, _, rfl, [], .of rfl rfl rfl rfl rfl ⟨⟨_, rfl, AVLe.tup1 nil_op rfl⟩, rfl, trivial⟩ trivial⟩
theorem rread_d (s : List UInt8) (hs : s.length ≤ 1048575) (a : List UInt8) (r : List (List UInt8)) (hw : splitL s 32 = a :: r) (h1 : ¬ (a = sRead ∧ r.length = 1)) (h2 : ¬ (a = sWrite ∧ r.length = 2)) (h3 : ¬ (a = sFlush ∧ r.length = 0)) (h4 : ¬ (a = sOp ∧ r.length = 3)) : FnIs Tryz.prog 99 [.d (strD s)] [] (readA (readR s)) [] := by
  have hcut : FnIs Tryz.prog 69 [.d (strD s), .int .u8 32] [] (.d (.arr 1 strD (a :: r))) [] := by
    have := rcut_is s 32 hs
    rw [hw] at this
    exact this
  have g0 : (a :: r)[((0 : Int)).toNat]? = some a := rfl
  have hR := readR_of hw
  rw [show wordsR (a :: r) = none by rw [wordsR, if_neg h1, if_neg h2, if_neg h3, if_neg h4]] at hR
  rw [hR]
  have hl : (a :: r).length = r.length + 1 := rfl
  refine fnIs_of tab_ok Tryz.func99 rfl rfl rfl ?_
  by_cases q0 : a = sRead
  · have ha := q0
    have l0 : decide (((a :: r).length : Int) = 2) = false := decide_eq_false fun e => h1 ⟨ha, by omega⟩
    have c0 : decide (a = sRead) = true := decide_eq_true ha
    have c1 : decide (a = sWrite) = false := decide_eq_false (by rw [ha]; decide)
    have c2 : decide (a = sFlush) = false := decide_eq_false (by rw [ha]; decide)
    have c3 : decide (a = sOp) = false := decide_eq_false (by rw [ha]; decide)
    refine sR ?_;refine rN ?_;refine rC ?_;refine nR ?_;refine rC ?_;refine rQ (call_r hcut rfl rfl (arg_e (arg_e arg_nil)) (.inl rfl) (fun _ => rfl)) ?_;refine rC ?_
    refine nR ?_;refine rQ iS ?_;refine rN ?_;refine rW ?_;refine nR ?_;iterate 2 refine rC ?_
    refine nQ ?_;refine wc_block ?_;refine sR ?_;refine rC ?_;refine rQ iA ?_;refine rQ iL ?_;refine rQ (eql_s (a := a) (b := sRead) tab_ok rfl rfl rfl) ?_;refine rC ?_
    refine rO ?_;refine rC ?_;refine rO ?_;refine rQ iE ?_;refine rO ?_;refine rC ?_;refine rQ iT ?_;refine rC ?_;refine nS ?_;refine wF ?_;refine sR ?_;refine rC ?_
    refine rQ iA ?_;refine rQ iL ?_;refine rQ (eql_s (a := a) (b := sWrite) tab_ok rfl rfl rfl) ?_;refine rC ?_;iterate 3 refine rS ?_
    refine rQ iF ?_;refine rC ?_;refine nS ?_;refine wG ?_;refine sR ?_;refine rC ?_;refine rQ iA ?_;refine rQ iL ?_;refine rQ (eql_s (a := a) (b := sFlush) tab_ok rfl rfl rfl) ?_
    refine rC ?_;iterate 3 refine rS ?_
    refine rQ iF ?_;refine rC ?_;refine nS ?_;refine wG ?_;refine sR ?_;refine rC ?_;refine rQ iA ?_;refine rQ iL ?_;refine rQ (eql_s (a := a) (b := sOp) tab_ok rfl rfl rfl) ?_
    refine rC ?_;iterate 3 refine rS ?_
    refine rQ iF ?_;refine rC ?_;refine nS ?_;refine wG ?_;refine sR ?_;refine rQ iS ?_;refine rW ?_;refine rC ?_;refine nS ?_;refine wc_ret ?_;refine blk_r ?_;refine seq_r ?_
    exact ⟨trivial, _, rfl, [], .of rfl rfl rfl rfl rfl ⟨⟨_, rfl, AVLe.tup1 nil_op rfl⟩, rfl, trivial⟩ trivial⟩
  by_cases q1 : a = sWrite
  · have ha := q1
    have l1 : decide (((a :: r).length : Int) = 3) = false := decide_eq_false fun e => h2 ⟨ha, by omega⟩
    have c0 : decide (a = sRead) = false := decide_eq_false (by rw [ha]; decide)
    have c1 : decide (a = sWrite) = true := decide_eq_true ha
    have c2 : decide (a = sFlush) = false := decide_eq_false (by rw [ha]; decide)
    have c3 : decide (a = sOp) = false := decide_eq_false (by rw [ha]; decide)
    refine sR ?_;refine rN ?_;refine rC ?_;refine nR ?_;refine rC ?_;refine rQ (call_r hcut rfl rfl (arg_e (arg_e arg_nil)) (.inl rfl) (fun _ => rfl)) ?_;refine rC ?_
    refine nR ?_;refine rQ iS ?_;refine rN ?_;refine rW ?_;refine nR ?_;iterate 2 refine rC ?_
    refine nQ ?_;refine wc_block ?_;refine sR ?_;refine rC ?_;refine rQ iA ?_;refine rQ iL ?_;refine rQ (eql_s (a := a) (b := sRead) tab_ok rfl rfl rfl) ?_;refine rC ?_
    iterate 3 refine rS ?_
    refine rQ iF ?_;refine rC ?_;refine nS ?_;refine wG ?_;refine sR ?_;refine rC ?_;refine rQ iA ?_;refine rQ iL ?_;refine rQ (eql_s (a := a) (b := sWrite) tab_ok rfl rfl rfl) ?_
    refine rC ?_;refine rO ?_;refine rC ?_;refine rO ?_;refine rQ iE ?_;refine rO ?_;refine rC ?_;refine rQ iT ?_;refine rC ?_;refine nS ?_;refine wF ?_;refine sR ?_
    refine rC ?_;refine rQ iA ?_;refine rQ iL ?_;refine rQ (eql_s (a := a) (b := sFlush) tab_ok rfl rfl rfl) ?_;refine rC ?_;iterate 3 refine rS ?_
    refine rQ iF ?_;refine rC ?_;refine nS ?_;refine wG ?_;refine sR ?_;refine rC ?_;refine rQ iA ?_;refine rQ iL ?_;refine rQ (eql_s (a := a) (b := sOp) tab_ok rfl rfl rfl) ?_
    refine rC ?_;iterate 3 refine rS ?_
    refine rQ iF ?_;refine rC ?_;refine nS ?_;refine wG ?_;refine sR ?_;refine rQ iS ?_;refine rW ?_;refine rC ?_;refine nS ?_;refine wc_ret ?_;refine blk_r ?_;refine seq_r ?_
    exact ⟨trivial, _, rfl, [], .of rfl rfl rfl rfl rfl ⟨⟨_, rfl, AVLe.tup1 nil_op rfl⟩, rfl, trivial⟩ trivial⟩
  by_cases q2 : a = sFlush
  · have ha := q2
    have l2 : decide (((a :: r).length : Int) = 1) = false := decide_eq_false fun e => h3 ⟨ha, by omega⟩
    have c0 : decide (a = sRead) = false := decide_eq_false (by rw [ha]; decide)
    have c1 : decide (a = sWrite) = false := decide_eq_false (by rw [ha]; decide)
    have c2 : decide (a = sFlush) = true := decide_eq_true ha
    have c3 : decide (a = sOp) = false := decide_eq_false (by rw [ha]; decide)
    refine sR ?_;refine rN ?_;refine rC ?_;refine nR ?_;refine rC ?_;refine rQ (call_r hcut rfl rfl (arg_e (arg_e arg_nil)) (.inl rfl) (fun _ => rfl)) ?_;refine rC ?_
    refine nR ?_;refine rQ iS ?_;refine rN ?_;refine rW ?_;refine nR ?_;iterate 2 refine rC ?_
    refine nQ ?_;refine wc_block ?_;refine sR ?_;refine rC ?_;refine rQ iA ?_;refine rQ iL ?_;refine rQ (eql_s (a := a) (b := sRead) tab_ok rfl rfl rfl) ?_;refine rC ?_
    iterate 3 refine rS ?_
    refine rQ iF ?_;refine rC ?_;refine nS ?_;refine wG ?_;refine sR ?_;refine rC ?_;refine rQ iA ?_;refine rQ iL ?_;refine rQ (eql_s (a := a) (b := sWrite) tab_ok rfl rfl rfl) ?_
    refine rC ?_;iterate 3 refine rS ?_
    refine rQ iF ?_;refine rC ?_;refine nS ?_;refine wG ?_;refine sR ?_;refine rC ?_;refine rQ iA ?_;refine rQ iL ?_;refine rQ (eql_s (a := a) (b := sFlush) tab_ok rfl rfl rfl) ?_
    refine rC ?_;refine rO ?_;refine rC ?_;refine rO ?_;refine rQ iE ?_;refine rO ?_;refine rC ?_;refine rQ iT ?_;refine rC ?_;refine nS ?_;refine wF ?_;refine sR ?_
    refine rC ?_;refine rQ iA ?_;refine rQ iL ?_;refine rQ (eql_s (a := a) (b := sOp) tab_ok rfl rfl rfl) ?_;refine rC ?_;iterate 3 refine rS ?_
    refine rQ iF ?_;refine rC ?_;refine nS ?_;refine wG ?_;refine sR ?_;refine rQ iS ?_;refine rW ?_;refine rC ?_;refine nS ?_;refine wc_ret ?_;refine blk_r ?_;refine seq_r ?_
    exact ⟨trivial, _, rfl, [], .of rfl rfl rfl rfl rfl ⟨⟨_, rfl, AVLe.tup1 nil_op rfl⟩, rfl, trivial⟩ trivial⟩
  by_cases q3 : a = sOp
  · have ha := q3
    have l3 : decide (((a :: r).length : Int) = 4) = false := decide_eq_false fun e => h4 ⟨ha, by omega⟩
    have c0 : decide (a = sRead) = false := decide_eq_false (by rw [ha]; decide)
    have c1 : decide (a = sWrite) = false := decide_eq_false (by rw [ha]; decide)
    have c2 : decide (a = sFlush) = false := decide_eq_false (by rw [ha]; decide)
    have c3 : decide (a = sOp) = true := decide_eq_true ha
    refine sR ?_;refine rN ?_;refine rC ?_;refine nR ?_;refine rC ?_;refine rQ (call_r hcut rfl rfl (arg_e (arg_e arg_nil)) (.inl rfl) (fun _ => rfl)) ?_;refine rC ?_
    refine nR ?_;refine rQ iS ?_;refine rN ?_;refine rW ?_;refine nR ?_;iterate 2 refine rC ?_
    refine nQ ?_;refine wc_block ?_;refine sR ?_;refine rC ?_;refine rQ iA ?_;refine rQ iL ?_;refine rQ (eql_s (a := a) (b := sRead) tab_ok rfl rfl rfl) ?_;refine rC ?_
    iterate 3 refine rS ?_
    refine rQ iF ?_;refine rC ?_;refine nS ?_;refine wG ?_;refine sR ?_;refine rC ?_;refine rQ iA ?_;refine rQ iL ?_;refine rQ (eql_s (a := a) (b := sWrite) tab_ok rfl rfl rfl) ?_
    refine rC ?_;iterate 3 refine rS ?_
    refine rQ iF ?_;refine rC ?_;refine nS ?_;refine wG ?_;refine sR ?_;refine rC ?_;refine rQ iA ?_;refine rQ iL ?_;refine rQ (eql_s (a := a) (b := sFlush) tab_ok rfl rfl rfl) ?_
    refine rC ?_;iterate 3 refine rS ?_
    refine rQ iF ?_;refine rC ?_;refine nS ?_;refine wG ?_;refine sR ?_;refine rC ?_;refine rQ iA ?_;refine rQ iL ?_;refine rQ (eql_s (a := a) (b := sOp) tab_ok rfl rfl rfl) ?_
    refine rC ?_;refine rO ?_;refine rC ?_;refine rO ?_;refine rQ iE ?_;refine rO ?_;refine rC ?_;refine rQ iT ?_;refine rC ?_;refine nS ?_;refine wF ?_;refine sR ?_
    refine rQ iS ?_;refine rW ?_;refine rC ?_;refine nS ?_;refine wc_ret ?_;refine blk_r ?_;refine seq_r ?_
    exact ⟨trivial, _, rfl, [], .of rfl rfl rfl rfl rfl ⟨⟨_, rfl, AVLe.tup1 nil_op rfl⟩, rfl, trivial⟩ trivial⟩
  have c0 : decide (a = sRead) = false := decide_eq_false q0
  have c1 : decide (a = sWrite) = false := decide_eq_false q1
  have c2 : decide (a = sFlush) = false := decide_eq_false q2
  have c3 : decide (a = sOp) = false := decide_eq_false q3
  refine sR ?_;refine rN ?_;refine rC ?_;refine nR ?_;refine rC ?_;refine rQ (call_r hcut rfl rfl (arg_e (arg_e arg_nil)) (.inl rfl) (fun _ => rfl)) ?_;refine rC ?_
  refine nR ?_;refine rQ iS ?_;refine rN ?_;refine rW ?_;refine nR ?_;iterate 2 refine rC ?_
  refine nQ ?_;refine wc_block ?_;refine sR ?_;refine rC ?_;refine rQ iA ?_;refine rQ iL ?_;refine rQ (eql_s (a := a) (b := sRead) tab_ok rfl rfl rfl) ?_;refine rC ?_
  iterate 3 refine rS ?_
  refine rQ iF ?_;refine rC ?_;refine nS ?_;refine wG ?_;refine sR ?_;refine rC ?_;refine rQ iA ?_;refine rQ iL ?_;refine rQ (eql_s (a := a) (b := sWrite) tab_ok rfl rfl rfl) ?_
  refine rC ?_;iterate 3 refine rS ?_
  refine rQ iF ?_;refine rC ?_;refine nS ?_;refine wG ?_;refine sR ?_;refine rC ?_;refine rQ iA ?_;refine rQ iL ?_;refine rQ (eql_s (a := a) (b := sFlush) tab_ok rfl rfl rfl) ?_
  refine rC ?_;iterate 3 refine rS ?_
  refine rQ iF ?_;refine rC ?_;refine nS ?_;refine wG ?_;refine sR ?_;refine rC ?_;refine rQ iA ?_;refine rQ iL ?_;refine rQ (eql_s (a := a) (b := sOp) tab_ok rfl rfl rfl) ?_
  refine rC ?_;iterate 3 refine rS ?_
  refine rQ iF ?_;refine rC ?_;refine nS ?_;refine wG ?_;refine sR ?_;refine rQ iS ?_;refine rW ?_;refine rC ?_;refine nS ?_;refine wc_ret ?_;refine blk_r ?_;refine seq_r ?_
  exact ⟨trivial, _, rfl, [], .of rfl rfl rfl rfl rfl ⟨⟨_, rfl, AVLe.tup1 nil_op rfl⟩, rfl, trivial⟩ trivial⟩
theorem rread_is (s : List UInt8) (hs : s.length ≤ 1048575) : FnIs Tryz.prog 99 [.d (strD s)] [] (readA (readP s)) [] := by
  rw [← read_same]
  cases hw : splitL s 32 with
  | nil => exact absurd hw (splitL_ne s 32)
  | cons a r =>
    by_cases h1 : a = sRead ∧ r.length = 1
    · obtain ⟨x, rfl⟩ := List.length_eq_one_iff.1 h1.2
      exact rread_1 s hs a x h1.1 hw 1 rfl
    by_cases h2 : a = sWrite ∧ r.length = 2
    · match r, h2.2, hw with
      | [x, y], _, hw => exact rread_2 s hs a x y h2.1 hw 2 rfl
    by_cases h3 : a = sFlush ∧ r.length = 0
    · obtain rfl := List.eq_nil_of_length_eq_zero h3.2
      exact rread_3 s hs a h3.1 hw 3 rfl
    by_cases h4 : a = sOp ∧ r.length = 3
    · match r, h4.2, hw with
      | [v, x, y], _, hw => exact rread_4 s hs a v x y h4.1 hw
    exact rread_d s hs a r hw h1 h2 h3 h4
end Go.Proofs.YtmojbghcngdkpaaGreatDoor

namespace Go.Eng
open Go.RowKit Go.Sort
abbrev encI64 (n : Int) : D := .sc (.int .i64 n)
theorem cat_i64 (l : List Int) : cat (fun i => [Value.int .i64 (l.getD i 0)]) l.length = l.map (Value.int .i64) := by
  have key : ∀ n, n ≤ l.length → cat (fun i => [Value.int .i64 (l.getD i 0)]) n = (l.take n).map (Value.int .i64) := by
    intro n
    induction n with
    | zero => intro _; rfl
    | succ n ih =>
      intro hn
      have hlt : n < l.length := by omega
      have e : l.take (n + 1) = l.take n ++ [l[n]] := by rw [List.take_add_one, List.getElem?_eq_getElem hlt]; rfl
      have e2 : l.getD n 0 = l[n] := by rw [List.getD_eq_getElem?_getD, List.getElem?_eq_getElem hlt]; rfl
      rw [cat, ih (by omega), e, List.map_append, e2]
      rfl
  rw [key _ (Nat.le_refl _), List.take_length]
theorem cat_i64' {w : World} {X : Nat → Prop} {f : Nat → List Value} {l : List Int} (hf : ∀ i (h : i < l.length), Enc w X (encI64 l[i]) (f i) ∧ (f i).length = 1) : cat f l.length = l.map (Value.int .i64) := by
  rw [← cat_i64]
  refine cat_congr _ fun i hi => ?_
  obtain ⟨⟨h1, _⟩, _⟩ := hf i hi
  rw [h1, List.getD_eq_getElem?_getD, List.getElem?_eq_getElem hi]
  rfl
theorem put_take {ys : List Int} {cur : Array Value} (h : ys.length ≤ cur.size) : (putCells (Value.int .i64) 0 ys.toArray cur).toList.take ys.length = ys.map (Value.int .i64) := by
  apply List.ext_getElem?
  intro k
  rw [List.getElem?_take]
  by_cases hk : k < ys.length
  · rw [if_pos hk, Array.getElem?_toList, putCells, Array.getElem?_mapIdx, Array.getElem?_eq_getElem (by omega)]
    simp only [Option.map_some, Nat.zero_le, true_and, Nat.zero_add, List.size_toArray, hk, if_true, Nat.sub_zero]
    rw [List.getElem?_map, List.getElem?_eq_getElem hk]
    simp [hk]
  · rw [if_neg hk, List.getElem?_eq_none (by simp; omega)]
variable {P : Program}
theorem FnIs.of_calls_ints {f : FuncId} {t : TypeId} {ex : Bool} {xs ys : List Int} {res : AV} {rv : Nat → Nat → Value} (hne : 0 < xs.length) (hl : ys.length = xs.length)
    (hfn : ∃ fn, P.funcs[f]? = some fn ∧ (fn.name == "runtime.NumGoroutine") = false ∧ fn.body.isNone = false)
    (hres : ∀ (σ : Place) (w : World) (X : Nat → Prop) (b c : Nat), σ 0 = some (b, c) → xs.length ≤ c → RelV σ w X res (rv b c)) (hin : res.within (fun r => r < 72))
    (h : ∀ (w : World) (b c : Nat), b < w.heap.size → Holds (Value.int .i64) w b 0 xs.toArray → xs.length ≤ c →
      Calls P f #[.slice (some ⟨b, 0, none⟩) xs.length c] w fun e w' => e = .returned (rv b c) ∧ ∃ n os, w' = grow (putRow (Value.int .i64) (Sort.ahead w n) b 0 ys.toArray) os) :
    FnIs P f [.own 0 0 xs.length 1 none] [(0, .ds t 1 ex encI64 xs)] res [(0, .ds t 1 ex encI64 ys)] := by
  refine ⟨hfn, fun C σ w vs hbs hB hw hσ hro hst => ?_⟩
  have hlen : vs.length = 1 := by have := hst.sz; simpa [inSt] using this
  obtain ⟨v, rfl⟩ : ∃ v, vs = [v] := by
    match vs, hlen with
    | [v], _ => exact ⟨v, rfl⟩
  have hr0 : (inSt [.own 0 0 xs.length 1 none] [(0, Row.ds t 1 ex encI64 xs)]).row 0 = some (Row.ds t 1 ex encI64 xs) := rfl
  obtain ⟨u, hu, hv⟩ := hst.env 0 _ rfl
  simp only [List.getElem?_toArray, List.getElem?_cons_zero, Option.some.injEq] at hu
  subst hu
  have hv : Rel σ w ((inSt [.own 0 0 xs.length 1 none] [(0, Row.ds t 1 ex encI64 xs)]).X C.X0 σ) (.own 0 0 xs.length 1 none) false [v] := by
    unfold RelV at hv
    simpa [AV.isAgg] using hv
  rcases hst.rows 0 _ hr0 with ⟨_, h2⟩ | ⟨b, c, cur, h1, h0, h2, h3, h4, h5, g, hg, h6⟩
  · rw [h2] at hne; exact absurd hne (by decide)
  rcases hv with ⟨h7, _⟩ | ⟨b', c', a, h7, h8, _, _, _, h9⟩
  · rw [h1] at h7; cases h7
  rw [h1] at h7
  cases h7
  obtain rfl := h9 (by omega)
  have hv2 : v = .slice (some ⟨b, 0, none⟩) xs.length c := by simpa using h8
  subst hv2
  have hblt : b < w.heap.size := (Array.getElem?_eq_some_iff.1 h2).1
  rw [Nat.mul_one] at h3 h6
  rw [cat_i64' hg] at h6
  have hH : Holds (Value.int .i64) w b 0 xs.toArray := by
    intro j hj
    simp only [List.size_toArray] at hj
    refine ⟨?_, ?_⟩
    · simp only [World.cell?, h2, Nat.zero_add]
      have := congrArg (fun l => l[j]?) h6
      simp only [List.getElem?_take, if_pos hj, Array.getElem?_toList, List.getElem?_map] at this
      rw [this, List.getElem?_eq_getElem hj]
      simp [hj]
    · simp only [World.frozen?, h2]
      simp
  refine (h w b c hblt hH h4).mono ?_
  rintro e w' ⟨rfl, n, os, rfl⟩
  refine ⟨_, σ, rfl, ?_⟩
  have hnew : (grow (putRow (Value.int .i64) (Sort.ahead w n) b 0 ys.toArray) os).heap[b]? = some (.cells (putCells (Value.int .i64) 0 ys.toArray cur) t (0, 0)) := by
    show ((w.heap.modify b _) ++ os)[b]? = _
    rw [Array.getElem?_append_left (by simpa using hblt), Array.getElem?_modify, if_pos rfl, h2]
    rfl
  have hother : ∀ k, k ≠ b → k < w.heap.size → (grow (putRow (Value.int .i64) (Sort.ahead w n) b 0 ys.toArray) os).heap[k]? = w.heap[k]? := by
    intro k hk hkl
    show ((w.heap.modify b _) ++ os)[k]? = _
    rw [Array.getElem?_append_left (by simpa using hkl), Array.getElem?_modify, if_neg (Ne.symm hk)]
  have hMb : C.M b := by
    rcases hst.high _ _ _ _ hr0 h1 with hh | hh
    · omega
    · exact hh
  have hX : (resSt res [(0, Row.ds t 1 ex encI64 ys)]).X C.X0 σ = (inSt [.own 0 0 xs.length 1 none] [(0, Row.ds t 1 ex encI64 xs)]).X C.X0 σ := by
    funext x
    apply propext
    constructor
    · rintro (hx | ⟨r, row, c', h5, h6⟩)
      · exact .inl hx
      · by_cases e : 0 = r
        · subst e; exact .inr ⟨0, _, c', hr0, h6⟩
        · simp only [resSt, someRows, St.row, lk_cons, if_neg e, lk] at h5; cases h5
    · rintro (hx | ⟨r, row, c', h5, h6⟩)
      · exact .inl hx
      · by_cases e : 0 = r
        · subst e; exact .inr ⟨0, _, c', rfl, h6⟩
        · simp only [inSt, someRows, St.row, lk_cons, if_neg e, lk] at h5; cases h5
  have hbm : BelowM C.B C.M w (grow (putRow (Value.int .i64) (Sort.ahead w n) b 0 ys.toArray) os) := by
    refine ⟨rfl, rfl, rfl, ?_, fun k hk hm => hother k (by rintro rfl; exact hm hMb) (by omega), fun k o ho hb => ?_⟩
    · show w.heap.size ≤ ((w.heap.modify b _) ++ os).size
      simp
    · have hk : k < w.heap.size := (Array.getElem?_eq_some_iff.1 ho).1
      exact (hother k (by rintro rfl; rw [h2] at ho; cases ho; cases hb) hk).trans ho
  exact
    { env := fun i x hi => by
        by_cases e : i = 0
        · subst e
          simp only [resSt, lk_cons, if_pos, Option.some.injEq] at hi
          subst hi
          exact ⟨_, rfl, hres _ _ _ _ _ h1 h4⟩
        · simp only [resSt, lk_cons, if_neg (Ne.symm e), lk] at hi
          cases hi
      envG := fun i x hi => by
        by_cases e : i = 0
        · subst e
          simp only [resSt, lk_cons, if_pos, Option.some.injEq] at hi
          subst hi
          exact hin
        · simp only [resSt, lk_cons, if_neg (Ne.symm e), lk] at hi
          cases hi
      rows := fun r row hr => by
        by_cases e : 0 = r
        · subst e
          simp only [resSt, someRows, St.row, lk_cons, if_pos, Option.bind_some, id, Option.some.injEq] at hr
          subst hr
          refine .inr ⟨b, c, _, h1, fun hex => by rw [hl]; exact h0 hex, hnew, by rw [Nat.mul_one]; simpa [putCells] using h3, by omega, h5, fun i => [.int .i64 (ys.getD i 0)], fun i hi => ⟨⟨?_, rfl⟩, rfl⟩, ?_⟩
          · show [Value.int .i64 (ys.getD i 0)] = _
            rw [List.getD_eq_getElem?_getD, List.getElem?_eq_getElem hi]; rfl
          · rw [Nat.mul_one, cat_i64]
            exact put_take (by omega)
        · simp only [resSt, someRows, St.row, lk_cons, if_neg e, lk] at hr; cases hr
      rowsG := fun r row hr => by
        by_cases e : 0 = r
        · subst e
          simp only [resSt, someRows, St.row, lk_cons, if_pos, Option.bind_some, id, Option.some.injEq] at hr
          subst hr
          exact ⟨by decide, trivial⟩
        · simp only [resSt, someRows, St.row, lk_cons, if_neg e, lk] at hr; cases hr
      inj := fun r r' row row' b c c' hr hr' _ _ => by
        by_cases e : 0 = r
        · by_cases e' : 0 = r'
          · omega
          · simp only [resSt, someRows, St.row, lk_cons, if_neg e', lk] at hr'; cases hr'
        · simp only [resSt, someRows, St.row, lk_cons, if_neg e, lk] at hr; cases hr
      high := fun r row b' c' hr hs => by
        by_cases e : 0 = r
        · subst e
          exact hst.high _ _ _ _ hr0 hs
        · simp only [resSt, someRows, St.row, lk_cons, if_neg e, lk] at hr; cases hr
      size := by
        show C.B ≤ ((w.heap.modify b _) ++ os).size
        simp; omega
      below := by rw [hw]; exact hbm
      defers := trivial
      sz := rfl
      x0 := hst.x0
      agree := fun r _ => by rw [hσ]
      baseG := fun r hr => by rw [hbs] at hr; show r < 72; omega
      bs := by rw [hbs]; rfl
      rok := fun l hl => by rw [hro] at hl; cases hl
      glob := hst.glob }
end Go.Eng

namespace Go.Eng
open Go.RowKit
variable {P : Program} {f : FuncId} {avs avs' : List AV} {h0 : List (Nat × Row)} {res : AV}
def Tells (avs : List AV) (h0 : List (Nat × Row)) (avs' : List AV) (h0' : List (Nat × Row)) : Prop :=
  ∀ (C : Ctx) (G : Nat → Prop) (σ : Place) (w : World) (a : Act), StRel C G (inSt avs h0) σ w a → StRel C G (inSt avs' h0') σ w a
theorem Tells.refl (avs : List AV) (h0 : List (Nat × Row)) : Tells avs h0 avs h0 := fun _ _ _ _ _ h => h
theorem Tells.freeze {h0' h1 : List (Nat × Row)} {avs1 : List AV} (r : Nat) (row : Row) (hrow : lookH (someRows h0) r = some row) (hE : FrzEnv r row (avEnv 0 avs) (avEnv 0 avs')) (hH : FrzRows r row (someRows h0) (someRows h0')) (hl : avs'.length = avs.length)
    (h : Tells avs' h0' avs1 h1) : Tells avs h0 avs1 h1 := by
  intro C G σ w a hst
  refine h C G σ w a (hst.freeze (st' := inSt avs' h0') r row (by rw [← lookH_row]; exact hrow) (FrzEnv.out _ hE) (fun q x' hq => ?_) hl rfl)
  rw [← lookH_row] at hq
  obtain ⟨h1, x, h2, h3⟩ := FrzRows.out _ hH q x' hq
  exact ⟨h1, x, by rw [← lookH_row]; exact h2, h3⟩
def FreeRes (res : AV) : Prop := (∀ (σ σ' : Place) (w w' : World) (X X' : Nat → Prop) (v : Value), RelV σ w X res v → RelV σ' w' X' res v) ∧ ∀ G : Nat → Prop, res.within G
theorem FreeRes.sc (v : Value) : FreeRes (.d (.sc v)) := ⟨fun _ _ _ _ _ _ _ h => RelV.sc.2 (RelV.sc.1 h), fun _ => trivial⟩
theorem FnIs.lend (ht : Tells avs h0 avs' []) (hf : FreeRes res) (h : FnIs P f avs' [] res []) : FnIs P f avs h0 res h0 := by
  refine ⟨h.1, fun C σ w vs hbs hB hw hσ hro hst => ?_⟩
  have h1 := ht _ _ _ _ _ hst
  have hc : StRel { C with M := fun _ => False } (fun r => r < 64) (inSt avs' []) σ w ⟨vs.toArray, []⟩ :=
    { env := h1.env
      envG := h1.envG
      rows := h1.rows
      rowsG := h1.rowsG
      inj := h1.inj
      high := fun r row b c hr => by simp [inSt, someRows, St.row, lk] at hr
      size := h1.size
      below := by show BelowM C.B _ C.w0 w; rw [hw]; exact BelowM.refl _ _ _
      defers := trivial
      sz := h1.sz
      x0 := fun b hb => ⟨(h1.x0 b hb).1, id⟩
      agree := h1.agree
      baseG := h1.baseG
      bs := h1.bs
      rok := h1.rok
      glob := fun x hx => ⟨(h1.glob x hx).1, (h1.glob x hx).2.1, id⟩ }
  refine (h.2 { C with M := fun _ => False } σ w vs hbs hB hw hσ hro hc).mono ?_
  rintro e w' ⟨v, σ', rfl, hr⟩
  refine ⟨v, σ, rfl, ?_⟩
  have hbm : BelowM C.B (fun _ => False) w w' := by have := hr.below; rw [← hw]; exact this
  have hheap : ∀ k, k < w.heap.size → w'.heap[k]? = w.heap[k]? := fun k hk => hbm.block k (by omega) id
  have hX : (resSt res h0).X C.X0 σ = (inSt avs h0).X C.X0 σ := rfl
  have hk : ∀ (a : Addr) (u : Value), w.cell? a = some u → ¬ (inSt avs h0).X C.X0 σ a.block → w'.cell? a = some u ∧ ¬ (resSt res h0).X C.X0 σ a.block := fun a u hc hx =>
    ⟨by rw [World.cell?_of_block (hheap _ (World.block_lt_of_cell? w a hc))]; exact hc, hx⟩
  obtain ⟨u, hu, hv⟩ := hr.env 0 _ rfl
  exact
    { env := fun i x hi => by
        by_cases e : i = 0
        · subst e
          simp only [resSt, lk_cons, if_pos, Option.some.injEq] at hi
          subst hi
          refine ⟨v, rfl, ?_⟩
          have hu' : v = u := by simpa using hu
          subst hu'
          exact hf.1 _ _ _ _ _ _ _ hv
        · simp only [resSt, lk_cons, if_neg (Ne.symm e), lk] at hi
          cases hi
      envG := fun i x hi => by
        by_cases e : i = 0
        · subst e
          simp only [resSt, lk_cons, if_pos, Option.some.injEq] at hi
          subst hi
          exact hf.2 _
        · simp only [resSt, lk_cons, if_neg (Ne.symm e), lk] at hi
          cases hi
      rows := fun r row hr' => RowRel.mono (fun _ _ => rfl) hk (hst.rowsG r row hr').1 (hst.rowsG r row hr').2 (fun b c hs => hheap b (hst.lt hr' hs)) (hst.rows r row hr')
      rowsG := fun r row hr' => by
        obtain ⟨g1, g2⟩ := hst.rowsG r row hr'
        refine ⟨Nat.lt_of_lt_of_le g1 (by decide), ?_⟩
        cases row with
        | box t x => exact AV.within.mono (fun r hr => Nat.lt_of_lt_of_le hr (by decide)) x g2
        | ds => trivial
        | lits t s n ex x => exact AV.within.mono (fun r hr => Nat.lt_of_lt_of_le hr (by decide)) x g2
        | mo x => exact AV.within.mono (fun r hr => Nat.lt_of_lt_of_le hr (by decide)) x g2
        | si => trivial
        | mi x => exact AV.within.mono (fun r hr => Nat.lt_of_lt_of_le hr (by decide)) x g2
      inj := hst.inj
      high := hst.high
      size := hr.size
      below := by rw [hw]; exact ⟨hbm.os, hbm.tape, hbm.output, hbm.size, fun k hk _ => hbm.block k hk id, hbm.book⟩
      defers := trivial
      sz := rfl
      x0 := hst.x0
      agree := hst.agree
      baseG := fun r hr => by have := hst.baseG r hr; exact Nat.lt_of_lt_of_le this (by decide)
      bs := hst.bs
      rok := fun l hl => by rw [hro] at hl; cases hl
      glob := hst.glob }
end Go.Eng

namespace Go.Eng
open Go.RowKit
theorem RowLe.ds_take {t : TypeId} {s m : Nat} {ex : Bool} {α : Type} {enc : α → D} {xs : List α} : RowLe (.ds t s ex enc xs) (.ds t s false enc (xs.take m)) := by
  intro σ w X r h
  rcases h with ⟨h1, rfl⟩ | ⟨b, c, cur, h1, _, h2, h3, h4, h5, f, hf, h6⟩
  · exact .inl ⟨h1, by simp⟩
  · have hle : (xs.take m).length ≤ xs.length := by rw [List.length_take]; omega
    refine .inr ⟨b, c, cur, h1, (fun h => by cases h), h2, h3, by omega, h5, f, fun i hi => ?_, ?_⟩
    · have hi' : i < xs.length := by omega
      rw [List.getElem_take]
      exact hf i hi'
    · obtain ⟨k, hk⟩ : ∃ k, xs.length = (xs.take m).length + k := ⟨xs.length - (xs.take m).length, by omega⟩
      have hl := cat_len (xs.take m).length (fun i hi => (hf i (by omega)).2)
      have h7 := congrArg (List.take ((xs.take m).length * s)) h6
      rw [List.take_take, Nat.min_eq_left (Nat.mul_le_mul_right s hle)] at h7
      rw [h7]
      conv => lhs; rw [hk, cat_add]
      rw [List.take_append_of_le_length (by rw [hl]; exact Nat.le_refl _), List.take_of_length_le (by rw [hl]; exact Nat.le_refl _)]
theorem Frz.row_le {r : Nat} {row row' : Row} {a a' : AV} (h : RowLe row row') (hf : Frz r row' a a') : Frz r row a a' :=
  ⟨hf.1, hf.2.1, hf.2.2.1, fun σ w X X' hx hn hr cs hc => hf.2.2.2 σ w X X' hx hn (h σ w X r hr) cs hc⟩
end Go.Eng
