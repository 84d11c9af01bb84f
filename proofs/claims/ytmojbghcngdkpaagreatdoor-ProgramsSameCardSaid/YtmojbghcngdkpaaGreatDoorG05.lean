/- Texts of the proof: P18, P19, P20, P21, P22, P23, P24, P25, P26, P27, P28, PY, P29, P30, Eng78, P31, P32, P33, P34, PZ, P35, P36, P37, P42, Eng80, Eng81, Eng82, P43, PM, PN, P40. -/
import Derived.Test.YtmojbghcngdkpaaGreatDoorG04
import Derived.Sort.Row
import Derived.Sort.Grow
import Derived.Lib.SlicesCompact

set_option linter.unusedVariables false
set_option linter.unusedSimpArgs false
set_option linter.unusedSectionVars false

namespace Go.Proofs.YtmojbghcngdkpaaGreatDoor
open Go.Eng Go.Plain
set_option maxHeartbeats 4000000
set_option maxRecDepth 20000
attribute [local irreducible] WC RegS RegD SeqQ BlkQ ScoQ RegK CutK Sat SatN FnIs LoopQ StepIs OpIs
abbrev parR (l : List (List POp)) (n : Nat) (e : Int) : AV := .tup (.acons (.d (.arx 1 encXP l)) (.acons (.int .i64 n) (.acons (.d (i6 e)) .anil)))
theorem nil_arx {α : Type} (s : Nat) (enc : α → D) : AVLe (.d (.sc nil_)) (.d (.arx s enc [])) := fun σ w X v h => AVLe.empty_arx s enc σ w X v (AVLe.nil_empty σ w X v h)
/-- The list, told by its last program. -/
def toL : Option (List (List POp) × List POp) → List (List POp)
  | none => []
  | some (l, p) => l ++ [p]
abbrev addF : AV := .fn (.func 93) .anil (.acons (.ptr 65 []) (.acons (.ptr 66 []) .anil))
@[reducible] noncomputable def pSt : Option (List (List POp) × List POp) × List UInt8 × Nat → St
  | (none, s, n) => ⟨[(6, addF), (3, .int .i64 n), (2, .ptr 65 []), (0, .d (strD s))], [(65, some (.box 72 (.own 68 0 0 1 none))), (66, some (.box 154 (.mapr 67))), (67, some (.mo (mapC strD knownL))), (68, some (.ds 77 1 false encO []))], 72, Tryz.f47.ntmps, 64⟩
  | (some (l, p), s, n) => ⟨[(6, addF), (3, .int .i64 n), (2, .ptr 65 []), (0, .d (strD s))], [(65, some (.box 72 (.own 68 0 (l.length + 1) 1 none))), (66, some (.box 154 (.mapr 67))), (67, some (.mo (mapC strD knownL))), (68, some (rowL p l (l.length + 1) 69)), (69, some (rowP p))], 72, Tryz.f47.ntmps, 64⟩
theorem leaf_ren {b b' c : Nat} {p : List POp} {l : List (List POp)} {m m' : Nat} {ρ ρ' : Nat → Option Nat} (hm : m = m') (h1 : ρ b = some c) (h2 : ρ' b' = some c) : RowLe (Row.ren ρ (rowL p l m b)) (Row.ren ρ' (rowL p l m' b')) := by
  subst hm
  show RowLe (.lits _ _ _ _ (AV.ren ρ (chM _ _))) (.lits _ _ _ _ (AV.ren ρ' (chM _ _)))
  rw [chM_ren, chM_ren]
  have e1 : AV.ren ρ (.own b 0 p.length 3 none) = .own c 0 p.length 3 none := by simp [AV.ren, h1]
  have e2 : AV.ren ρ' (.own b' 0 p.length 3 none) = .own c 0 p.length 3 none := by simp [AV.ren, h2]
  rw [e1, e2]
  exact .refl _
theorem arr_map {α β : Type} {s : Nat} {enc : α → D} {enc' : β → D} {g : β → α} {xs : List β} {ys : List α} (hy : ys = xs.map g) (h : ∀ x, enc (g x) = enc' x) : ∀ (σ : Eng.Place) (w : World) (X : Nat → Prop) (cs : List Value), Rel σ w X (.d (.arr s enc ys)) false cs → Rel σ w X (.d (.arr s enc' xs)) false cs := by
  subst hy
  intro σ w X v hv
  rcases hv with ⟨h1, rfl⟩ | ⟨a, c, rfl, h2, h3, f, hf⟩
  · exact .inl ⟨by simpa using h1, rfl⟩
  · refine .inr ⟨a, c, by rw [List.length_map], by rw [List.length_map] at h2; exact h2, h3, f, fun i hi => ?_⟩
    have := hf i (by rw [List.length_map]; exact hi)
    rw [List.getElem_map, h] at this
    exact this
theorem arr_nilR {α β : Type} {s : Nat} (enc : α → D) (enc' : β → D) : ∀ (σ : Eng.Place) (w : World) (X : Nat → Prop) (cs : List Value), Rel σ w X (.d (.arr s enc [])) false cs → Rel σ w X (.d (.arr s enc' [])) false cs := by
  intro σ w X v hv
  rcases hv with ⟨_, rfl⟩ | ⟨a, c, rfl, h2, h3, f, _⟩
  · exact .inl ⟨rfl, rfl⟩
  · exact .inr ⟨a, c, rfl, h2, h3, f, fun i hi => absurd hi (Nat.not_lt_zero _)⟩
/-- A program, clipped or not. -/
def enc2 : Bool × List POp → D
  | (true, p) => encXP p
  | (false, p) => encP p
theorem enc2_size (x : Bool × List POp) : (enc2 x).size = 1 := by obtain ⟨b, p⟩ := x; cases b <;> rfl
def mkL (L : List (List POp)) (i : Nat) : List (Bool × List POp) := (L.take i).map (fun p => (true, p)) ++ (L.drop i).map (fun p => (false, p))
theorem mkL_len (L : List (List POp)) (i : Nat) : (mkL L i).length = L.length := by simp [mkL]; omega
theorem mkL_get {L : List (List POp)} {i : Nat} {x : List POp} (h : L[i]? = some x) : (mkL L i)[i]? = some (false, x) := by
  have hi : i < L.length := (List.getElem?_eq_some_iff.1 h).1
  rw [mkL, List.getElem?_append_right (by simp; omega)]
  simp only [List.length_map, List.length_take, Nat.min_eq_left (Nat.le_of_lt hi), Nat.sub_self, List.getElem?_map, List.getElem?_drop, Nat.add_zero, h, Option.map_some]
theorem mkL_set {L : List (List POp)} {i : Nat} {x : List POp} (h : L[i]? = some x) : (mkL L i).set i (true, x) = mkL L (i + 1) := by
  have hi : i < L.length := (List.getElem?_eq_some_iff.1 h).1
  have hx : L[i] = x := (List.getElem?_eq_some_iff.1 h).2
  rw [mkL, mkL, List.set_append_right _ _ (by simp; omega), List.drop_eq_getElem_cons hi, hx, List.take_add_one, h]
  simp [Nat.min_eq_left (Nat.le_of_lt hi)]
/-- What holds ahead of each line. -/
def PInv (s0 : List UInt8) : Option (List (List POp) × List POp) × List UInt8 × Nat → Prop
  | (q, s, n) => parseP s (toL q) n = parseP s0 [] 1 ∧ chkP (toL q) = 0 ∧ OkL (toL q) ∧ s.length + n ≤ s0.length + 1 ∧ 1 ≤ n
theorem cut_len {s t r : List UInt8} {c : UInt8} (h : cutL s c = some (t, r)) : t.length + r.length + 1 = s.length := by
  rw [(cutL_some h).1]; simp; omega
theorem parse_main (s0 : List UInt8) (hl : s0.length ≤ 1048576) : FnIs Tryz.prog 47 [.d (strD s0)] [] (parR (parseP s0 [] 1).1 (parseP s0 [] 1).2.1 (parseP s0 [] 1).2.2) [] := by
  have hd : decide (1048576 < (s0.length : Int)) = false := decide_eq_false (by omega)
  refine fnIs_of tab_ok Tryz.func47 rfl rfl rfl ?_
  refine wc_seq ?_
  refine wc_region ?_
  refine reg_new (step_C tab_ok (fun K hk => hk)) rfl ?_
  refine reg_quiet rfl (step_C tab_ok (fun K hk => hk)) ?_
  refine reg_quiet rfl (step_C tab_ok (fun K hk => hk)) ?_
  refine reg_nil ?_
  refine seq_n ?_
  refine wc_seq ?_
  refine wc_seq ?_
  refine wc_region ?_
  refine reg_quiet rfl (step_C tab_ok (fun K hk => hk)) ?_
  refine reg_quiet rfl (len_s tab_ok rfl rfl) ?_
  refine reg_quiet rfl (step_C tab_ok (fun K hk => hk)) ?_
  refine reg_nil ?_
  refine seq_n ?_
  refine wc_false rfl (by assumption) ?_
  refine wc_skip ?_
  refine seq_n ?_
  refine wc_seq ?_
  refine wc_region ?_
  refine reg_new (call_new readers_is rfl rfl arg_nil (.inl rfl) rfl rfl) rfl ?_
  refine reg_new (step_C tab_ok (fun K hk => hk)) rfl ?_
  refine reg_store (store_row tab_ok rfl rfl rfl ⟨_, ⟨rfl, rfl, rfl⟩, rfl⟩ rfl) ?_
  refine reg_nil ?_
  refine seq_n ?_
  refine wc_seq ?_
  refine wc_region ?_
  refine reg_quiet rfl (step_C tab_ok (fun K hk => hk)) ?_
  refine reg_quiet rfl (step_C tab_ok (fun K hk => hk)) ?_
  refine reg_nil ?_
  refine seq_n ?_
  refine wc_seq ?_
  refine wc_seq ?_
  refine wc_region ?_
  refine reg_quiet rfl (step_C tab_ok (fun K hk => hk)) ?_
  refine reg_nil ?_
  refine seq_n ?_
  refine wc_block ?_
  refine wc_inv pSt (PInv s0) (fun a => a.2.1.length) (none, s0, 1) [(65, some 64), (66, some 120), (67, some 112), (68, none)] ⟨rfl, rfl, by intro p hp; simp [toL] at hp, Nat.le_refl _, Nat.le_refl _⟩
    (.of rfl rfl rfl rfl rfl ⟨⟨_, rfl, .refl _⟩, rfl, ⟨_, rfl, .refl _⟩, rfl, ⟨_, rfl, .refl _⟩, rfl, ⟨_, rfl, .refl _⟩, rfl, trivial⟩ ⟨⟨rfl, rfl, _, rfl, .refl _⟩, ⟨rfl, rfl, _, rfl, .refl _⟩, ⟨rfl, rfl, _, rfl, .refl _⟩, ⟨rfl, rfl, rfl⟩, trivial⟩) ?_
  rintro ⟨q, s, n⟩ ⟨hp, hc0, hok, hn, hn1⟩
  by_cases hs : s = []
  · have hR : parseP s0 [] 1 = (toL q, 0, 0) := by rw [← hp, hs, parseP_nil]
    rw [hR]
    have hs1 : (!decide (s = [])) = false := by rw [hs]; rfl
    cases q with
    | none =>
      have hcl := clones_is [] (by decide)
      have hcp := clips_is []
      refine wc_of ?_
      refine wc_seq ?_
      refine wc_seq ?_
      refine wc_region ?_
      refine reg_quiet rfl (step_C tab_ok (fun K hk => hk)) ?_
      refine reg_quiet rfl (neq_s (a := s) (b := []) tab_ok rfl rfl rfl) ?_
      refine reg_nil ?_
      refine seq_n ?_
      refine wc_false rfl (by assumption) ?_
      refine wc_exit ?_
      refine seq_x ?_
      refine loop_x ?_
      refine blk_x ?_
      refine seq_n ?_
      refine wc_seq ?_
      refine wc_seq ?_
      refine wc_region ?_
      refine reg_quiet rfl (load_box tab_ok rfl rfl rfl rfl) ?_
      refine reg_quiet rfl (len_own tab_ok rfl rfl) ?_
      refine reg_quiet rfl (step_C tab_ok (fun K hk => hk)) ?_
      refine reg_nil ?_
      refine seq_n ?_
      refine wc_block ?_
      refine wc_once ?_
      refine wc_seq ?_
      refine wc_region ?_
      refine reg_quiet rfl (step_C tab_ok (fun K hk => hk)) ?_
      refine reg_nil ?_
      refine seq_n ?_
      refine wc_seq ?_
      refine wc_false rfl rfl ?_
      refine wc_exit ?_
      refine seq_x ?_
      refine loop_x ?_
      refine blk_x ?_
      refine seq_n ?_
      refine wc_seq ?_
      refine wc_region ?_
      refine reg_quiet rfl (load_box tab_ok rfl rfl rfl rfl) ?_
      refine reg_freeze (env' := [(53, _), (2, _)]) (h' := [(65, some _)]) 68 _ rfl ⟨⟨_, rfl, Frz.le (y := .d (.arr 1 encXP [])) (Frz.own rfl) rfl (fun _ => rfl) (fun _ _ => trivial) (arr_nilR encO encXP)⟩, ⟨_, rfl, .refl _⟩, trivial⟩ ⟨⟨rfl, _, rfl, .refl _⟩, trivial⟩ ?_
      refine reg_quiet rfl (call_r hcl rfl rfl (arg_e arg_nil) (.inl rfl) (fun _ => rfl)) ?_
      refine reg_quiet rfl (call_r hcp rfl rfl (arg_e arg_nil) (.inl rfl) (fun _ => rfl)) ?_
      refine reg_store (store_row tab_ok rfl rfl rfl ⟨_, ⟨rfl, rfl, rfl⟩, rfl⟩ rfl) ?_
      refine reg_quiet rfl (step_C tab_ok (fun K hk => hk)) ?_
      refine reg_quiet rfl (step_C tab_ok (fun K hk => hk)) ?_
      refine reg_nil ?_
      refine seq_n ?_
      refine wc_ret ?_
      exact ⟨trivial, _, rfl, [], .of rfl rfl rfl rfl rfl ⟨⟨_, rfl, AVLe.of_eq rfl⟩, rfl, trivial⟩ trivial⟩
    | some lp =>
      obtain ⟨l, p⟩ := lp
      obtain ⟨c1, c2⟩ := chkP_ok.1 hc0
      have hl8 : l.length + 1 ≤ 8 := by simpa [toL] using c1
      have hLl : (l ++ [p]).length = l.length + 1 := by simp
      have hcl := clones_is (l ++ [p]) (by rw [hLl]; omega)
      have hcp := clips_is (l ++ [p])
      refine wc_of ?_
      refine wc_seq ?_
      refine wc_seq ?_
      refine wc_region ?_
      refine reg_quiet rfl (step_C tab_ok (fun K hk => hk)) ?_
      refine reg_quiet rfl (neq_s (a := s) (b := []) tab_ok rfl rfl rfl) ?_
      refine reg_nil ?_
      refine seq_n ?_
      refine wc_false rfl (by assumption) ?_
      refine wc_exit ?_
      refine seq_x ?_
      refine loop_x ?_
      refine blk_x ?_
      refine seq_n ?_
      refine wc_seq ?_
      refine wc_seq ?_
      refine wc_region ?_
      refine reg_freeze (env' := [(2, _)]) (h' := [(65, some _), (68, some _)]) 69 _ rfl ⟨⟨_, rfl, .refl _⟩, trivial⟩ ⟨⟨rfl, _, rfl, .refl _⟩, ⟨rfl, _, rfl, FrzR.last (enc := enc2) (xs := l.map (fun p => (false, p))) (y := (false, p)) rfl rfl (by simp) enc2_size (by simp [enc2])⟩, trivial⟩ ?_
      refine reg_quiet rfl (load_box tab_ok rfl rfl rfl rfl) ?_
      refine reg_quiet rfl (len_own tab_ok rfl rfl) ?_
      refine reg_quiet rfl (step_C tab_ok (fun K hk => hk)) ?_
      refine reg_nil ?_
      refine seq_n ?_
      refine wc_block ?_
      refine wc_inv (fun i : Nat => ⟨[(40, .int .i64 i), (39, .int .i64 ((l.length + 1 : Nat) : Int)), (2, .ptr 65 [])], [(65, some (.box 72 (.own 68 0 (l.length + 1) 1 none))), (68, some (.ds 77 1 false enc2 (mkL (l ++ [p]) i)))], 72, Tryz.f47.ntmps, 64⟩) (fun i => i ≤ l.length + 1) (fun i => l.length + 1 - i) 0 [] (Nat.zero_le _)
        (.of rfl rfl rfl rfl rfl ⟨⟨_, rfl, .refl _⟩, rfl, ⟨_, rfl, .refl _⟩, rfl, ⟨_, rfl, .refl _⟩, rfl, trivial⟩ ⟨⟨rfl, rfl, _, rfl, .refl _⟩, ⟨rfl, rfl, _, rfl, RowLe.of_eq (by simp [mkL]; rfl)⟩, trivial⟩) ?_
      intro i hi
      refine wc_of ?_
      refine wc_seq ?_
      refine wc_region ?_
      refine reg_quiet rfl (step_C tab_ok (fun K hk => hk)) ?_
      refine reg_nil ?_
      refine seq_n ?_
      refine wc_seq ?_
      refine wc_cond rfl (fun h3 => ?_) (fun h3 => ?_)
      · have hlt : i < l.length + 1 := by have := of_decide_eq_true h3; omega
        obtain ⟨x, hx⟩ : ∃ x, (l ++ [p])[i]? = some x := ⟨_, List.getElem?_eq_getElem (by rw [hLl]; exact hlt)⟩
        have hxl : x.length ≤ 1048576 := by
          have := c2 x (List.mem_of_getElem? hx)
          simp only [badP, Bool.or_eq_false_iff, decide_eq_false_iff_not] at this
          omega
        have hgx : (mkL (l ++ [p]) i)[((i : Int)).toNat]? = some (false, x) := by rw [Int.toNat_natCast]; exact mkL_get hx
        have hset := mkL_set hx
        have hc1 := clone_is x hxl
        have hc2 := clip_is x
        refine wc_skip ?_
        refine seq_n ?_
        refine wc_seq ?_
        refine wc_block ?_
        refine wc_seq ?_
        refine wc_region ?_
        refine reg_quiet rfl (step_C tab_ok (fun K hk => hk)) ?_
        refine reg_quiet rfl (step_C tab_ok (fun K hk => hk)) ?_
        refine reg_nil ?_
        refine seq_n ?_
        refine wc_draw (by kernel_rfl) ?_
        refine dreg_q [2] [65, 68] rfl (load_box tab_ok rfl rfl rfl rfl) ?_
        refine dreg_q [11] [] rfl (step_C tab_ok (fun K hk => hk)) ?_
        refine dreg_q [2] [65, 68] rfl (load_box tab_ok rfl rfl rfl rfl) ?_
        refine dreg_q [11] [] rfl (step_C tab_ok (fun K hk => hk)) ?_
        refine dreg_q [45, 46] [68] rfl (index_own tab_ok rfl rfl rfl rfl rfl (by omega) (by omega)) ?_
        refine dreg_q [47] [68] rfl (load_row tab_ok rfl rfl ⟨rfl, (false, x), hgx, _, rfl, rfl⟩ rfl) ?_
        refine dreg_q [48] [] rfl (call_r hc1 rfl rfl (arg_e arg_nil) (.inl rfl) (fun _ => rfl)) ?_
        refine dreg_q [49] [] rfl (call_r hc2 rfl rfl (arg_e arg_nil) (.inl rfl) (fun _ => rfl)) ?_
        refine dreg_q [43, 44] [68] rfl (index_own tab_ok rfl rfl rfl rfl rfl (by omega) (by omega)) ?_
        refine dreg_s [51, 50] [68] (store_row tab_ok rfl rfl rfl ⟨rfl, (false, x), (true, x), hgx, ⟨rfl, rfl, rfl⟩, rfl⟩ rfl) ?_
        refine dreg_end (by kernel_rfl) ?_
        refine blk_n ?_
        refine seq_n ?_
        refine wc_region ?_
        refine reg_quiet rfl (add_int tab_ok rfl rfl (wrap_i64 (by omega) (by omega))) ?_
        refine reg_quiet rfl (step_C tab_ok (fun K hk => hk)) ?_
        refine reg_nil ?_
        exact loop_n (i + 1) [] hlt (by omega) (.of rfl rfl rfl rfl rfl ⟨⟨_, rfl, .refl _⟩, rfl, ⟨_, rfl, .refl _⟩, rfl, ⟨_, rfl, .refl _⟩, rfl, trivial⟩ ⟨⟨rfl, rfl, _, rfl, .refl _⟩, ⟨rfl, rfl, _, rfl, RowLe.of_eq (congrArg (Row.ds 77 1 false enc2) hset)⟩, trivial⟩)
      · have he : i = l.length + 1 := by have := of_decide_eq_false h3; omega
        subst he
        have hml : l.length + 1 = (mkL (l ++ [p]) (l.length + 1)).length := by rw [mkL_len, hLl]
        have hmk : mkL (l ++ [p]) (l.length + 1) = (l ++ [p]).map (fun p => (true, p)) := by rw [mkL, ← hLl, List.take_length, List.drop_length]; simp
        refine wc_exit ?_
        refine seq_x ?_
        refine loop_x ?_
        refine blk_x ?_
        refine seq_n ?_
        refine wc_seq ?_
        refine wc_region ?_
        refine reg_quiet rfl (load_box tab_ok rfl rfl rfl rfl) ?_
        refine reg_freeze (env' := [(53, _), (2, _)]) (h' := [(65, some _)]) 68 _ rfl ⟨⟨_, rfl, Frz.le (y := .d (.arr 1 encXP (l ++ [p]))) (Frz.own hml) rfl (fun _ => rfl) (fun _ _ => trivial) (arr_map (enc' := encXP) (xs := l ++ [p]) (g := fun p => (true, p)) hmk (fun _ => rfl))⟩, ⟨_, rfl, .refl _⟩, trivial⟩ ⟨⟨rfl, _, rfl, .refl _⟩, trivial⟩ ?_
        refine reg_quiet rfl (call_r hcl rfl rfl (arg_e arg_nil) (.inl rfl) (fun _ => rfl)) ?_
        refine reg_quiet rfl (call_r hcp rfl rfl (arg_e arg_nil) (.inl rfl) (fun _ => rfl)) ?_
        refine reg_store (store_row tab_ok rfl rfl rfl ⟨_, ⟨rfl, rfl, rfl⟩, rfl⟩ rfl) ?_
        refine reg_quiet rfl (step_C tab_ok (fun K hk => hk)) ?_
        refine reg_quiet rfl (step_C tab_ok (fun K hk => hk)) ?_
        refine reg_nil ?_
        refine seq_n ?_
        refine wc_ret ?_
        exact ⟨trivial, _, rfl, [], .of rfl rfl rfl rfl rfl ⟨⟨_, rfl, AVLe.of_eq rfl⟩, rfl, trivial⟩ trivial⟩
  have hs1 : (!decide (s = [])) = true := by rw [decide_eq_false hs]; rfl
  cases hcut : cutL s 10 with
  | none =>
    have hR : parseP s0 [] 1 = ([], n, 5) := by rw [← hp, parseP_none _ _ hs hcut]
    have hc := cut_is (l := s) (c := 10) (by omega)
    rw [show cutA s 10 = (s, [], false) by simp only [cutA, hcut]] at hc
    rw [hR]
    cases q with
    | none =>
      refine wc_of ?_
      refine wc_seq ?_
      refine wc_seq ?_
      refine wc_region ?_
      refine reg_quiet rfl (step_C tab_ok (fun K hk => hk)) ?_
      refine reg_quiet rfl (neq_s (a := s) (b := []) tab_ok rfl rfl rfl) ?_
      refine reg_nil ?_
      refine seq_n ?_
      refine wc_true rfl (by assumption) ?_
      refine wc_skip ?_
      refine seq_n ?_
      refine wc_seq ?_
      refine wc_block ?_
      refine wc_seq ?_
      refine wc_region ?_
      refine reg_quiet rfl (step_C tab_ok (fun K hk => hk)) ?_
      refine reg_quiet rfl (call_r hc rfl rfl (arg_e (arg_e arg_nil)) (.inl rfl) (fun _ => rfl)) ?_
      refine reg_quiet rfl (step_C tab_ok (fun K hk => hk)) ?_
      refine reg_quiet rfl (step_C tab_ok (fun K hk => hk)) ?_
      refine reg_quiet rfl (step_C tab_ok (fun K hk => hk)) ?_
      refine reg_quiet rfl (step_C tab_ok (fun K hk => hk)) ?_
      refine reg_quiet rfl (step_C tab_ok (fun K hk => hk)) ?_
      refine reg_quiet rfl (step_C tab_ok (fun K hk => hk)) ?_
      refine reg_quiet rfl (step_C tab_ok (fun K hk => hk)) ?_
      refine reg_nil ?_
      refine seq_n ?_
      refine wc_seq ?_
      refine wc_seq ?_
      refine wc_region ?_
      refine reg_quiet rfl (step_C tab_ok (fun K hk => hk)) ?_
      refine reg_quiet rfl (step_C tab_ok (fun K hk => hk)) ?_
      refine reg_nil ?_
      refine seq_n ?_
      refine wc_true rfl rfl ?_
      refine wc_seq ?_
      refine wc_region ?_
      refine reg_quiet rfl (step_C tab_ok (fun K hk => hk)) ?_
      refine reg_store (store_row tab_ok rfl rfl rfl ⟨_, ⟨rfl, rfl, rfl⟩, rfl⟩ rfl) ?_
      refine reg_quiet rfl (step_C tab_ok (fun K hk => hk)) ?_
      refine reg_quiet rfl (step_C tab_ok (fun K hk => hk)) ?_
      refine reg_nil ?_
      refine seq_n ?_
      refine wc_ret ?_
      refine seq_r ?_
      refine blk_r ?_
      refine seq_r ?_
      refine loop_r ?_
      refine blk_r ?_
      refine seq_r ?_
      exact ⟨trivial, _, rfl, [], .of rfl rfl rfl rfl rfl ⟨⟨_, rfl, AVLe.tup1 (nil_arx _ _) rfl⟩, rfl, trivial⟩ trivial⟩
    | some lp =>
      obtain ⟨l, p⟩ := lp
      refine wc_of ?_
      refine wc_seq ?_
      refine wc_seq ?_
      refine wc_region ?_
      refine reg_quiet rfl (step_C tab_ok (fun K hk => hk)) ?_
      refine reg_quiet rfl (neq_s (a := s) (b := []) tab_ok rfl rfl rfl) ?_
      refine reg_nil ?_
      refine seq_n ?_
      refine wc_true rfl (by assumption) ?_
      refine wc_skip ?_
      refine seq_n ?_
      refine wc_seq ?_
      refine wc_block ?_
      refine wc_seq ?_
      refine wc_region ?_
      refine reg_quiet rfl (step_C tab_ok (fun K hk => hk)) ?_
      refine reg_quiet rfl (call_r hc rfl rfl (arg_e (arg_e arg_nil)) (.inl rfl) (fun _ => rfl)) ?_
      refine reg_quiet rfl (step_C tab_ok (fun K hk => hk)) ?_
      refine reg_quiet rfl (step_C tab_ok (fun K hk => hk)) ?_
      refine reg_quiet rfl (step_C tab_ok (fun K hk => hk)) ?_
      refine reg_quiet rfl (step_C tab_ok (fun K hk => hk)) ?_
      refine reg_quiet rfl (step_C tab_ok (fun K hk => hk)) ?_
      refine reg_quiet rfl (step_C tab_ok (fun K hk => hk)) ?_
      refine reg_quiet rfl (step_C tab_ok (fun K hk => hk)) ?_
      refine reg_nil ?_
      refine seq_n ?_
      refine wc_seq ?_
      refine wc_seq ?_
      refine wc_region ?_
      refine reg_quiet rfl (step_C tab_ok (fun K hk => hk)) ?_
      refine reg_quiet rfl (step_C tab_ok (fun K hk => hk)) ?_
      refine reg_nil ?_
      refine seq_n ?_
      refine wc_true rfl rfl ?_
      refine wc_seq ?_
      refine wc_region ?_
      refine reg_quiet rfl (step_C tab_ok (fun K hk => hk)) ?_
      refine reg_store (store_row tab_ok rfl rfl rfl ⟨_, ⟨rfl, rfl, rfl⟩, rfl⟩ rfl) ?_
      refine reg_quiet rfl (step_C tab_ok (fun K hk => hk)) ?_
      refine reg_quiet rfl (step_C tab_ok (fun K hk => hk)) ?_
      refine reg_nil ?_
      refine seq_n ?_
      refine wc_ret ?_
      refine seq_r ?_
      refine blk_r ?_
      refine seq_r ?_
      refine loop_r ?_
      refine blk_r ?_
      refine seq_r ?_
      exact ⟨trivial, _, rfl, [], .of rfl rfl rfl rfl rfl ⟨⟨_, rfl, AVLe.tup1 (nil_arx _ _) rfl⟩, rfl, trivial⟩ trivial⟩
  | some tr =>
    obtain ⟨tx, rest⟩ := tr
    have hlen := cut_len hcut
    have hc := cut_is (l := s) (c := 10) (by omega)
    rw [show cutA s 10 = (tx, rest, true) by simp only [cutA, hcut]] at hc
    have hP := parseP_some (toL q) n hs hcut
    rw [hp] at hP
    cases q with
    | none =>
      by_cases ht : tx = sClient
      · have hadd0 := add_client0 tx ht
        have hA : addP (toL none) tx = ([[]], 0) := by simp [addP, ht, toL]
        have hR : parseP s0 [] 1 = parseP rest (toL (some ([], []))) (n + 1) := by rw [hP, hA]; rfl
        refine wc_of ?_
        refine wc_seq ?_
        refine wc_seq ?_
        refine wc_region ?_
        refine reg_quiet rfl (step_C tab_ok (fun K hk => hk)) ?_
        refine reg_quiet rfl (neq_s (a := s) (b := []) tab_ok rfl rfl rfl) ?_
        refine reg_nil ?_
        refine seq_n ?_
        refine wc_true rfl (by assumption) ?_
        refine wc_skip ?_
        refine seq_n ?_
        refine wc_seq ?_
        refine wc_block ?_
        refine wc_seq ?_
        refine wc_region ?_
        refine reg_quiet rfl (step_C tab_ok (fun K hk => hk)) ?_
        refine reg_quiet rfl (call_r hc rfl rfl (arg_e (arg_e arg_nil)) (.inl rfl) (fun _ => rfl)) ?_
        refine reg_quiet rfl (step_C tab_ok (fun K hk => hk)) ?_
        refine reg_quiet rfl (step_C tab_ok (fun K hk => hk)) ?_
        refine reg_quiet rfl (step_C tab_ok (fun K hk => hk)) ?_
        refine reg_quiet rfl (step_C tab_ok (fun K hk => hk)) ?_
        refine reg_quiet rfl (step_C tab_ok (fun K hk => hk)) ?_
        refine reg_quiet rfl (step_C tab_ok (fun K hk => hk)) ?_
        refine reg_quiet rfl (step_C tab_ok (fun K hk => hk)) ?_
        refine reg_nil ?_
        refine seq_n ?_
        refine wc_seq ?_
        refine wc_seq ?_
        refine wc_region ?_
        refine reg_quiet rfl (step_C tab_ok (fun K hk => hk)) ?_
        refine reg_quiet rfl (step_C tab_ok (fun K hk => hk)) ?_
        refine reg_nil ?_
        refine seq_n ?_
        refine wc_false rfl rfl ?_
        refine wc_skip ?_
        refine seq_n ?_
        refine wc_seq ?_
        refine wc_seq ?_
        refine wc_region ?_
        refine reg_quiet rfl (step_C tab_ok (fun K hk => hk)) ?_
        refine reg_quiet rfl (step_C tab_ok (fun K hk => hk)) ?_
        refine reg_do rfl (call_h [(0, some 65), (1, some 66), (2, some 67), (3, some 68)] hadd0 rfl rfl rfl (arg_e (arg_ptr rfl rfl (arg_ptr rfl rfl arg_nil))) ⟨⟨rfl, rfl, _, _, rfl, rfl, .refl _⟩, ⟨rfl, rfl, _, _, rfl, rfl, .refl _⟩, ⟨rfl, rfl, _, _, rfl, rfl, .refl _⟩, ⟨rfl, rfl, _, _, rfl, rfl, .refl _⟩, trivial⟩ rfl rfl (.inl rfl) rfl rfl) rfl rfl ?_
        refine reg_quiet rfl (step_C tab_ok (fun K hk => hk)) ?_
        refine reg_nil ?_
        refine seq_n ?_
        refine wc_seq ?_
        refine wc_region ?_
        refine reg_quiet rfl (step_C tab_ok (fun K hk => hk)) ?_
        refine reg_quiet rfl (step_C tab_ok (fun K hk => hk)) ?_
        refine reg_nil ?_
        refine seq_n ?_
        refine wc_false rfl rfl ?_
        refine wc_skip ?_
        refine seq_n ?_
        refine wc_region ?_
        refine reg_quiet rfl (step_C tab_ok (fun K hk => hk)) ?_
        refine reg_quiet rfl (step_C tab_ok (fun K hk => hk)) ?_
        refine reg_nil ?_
        refine blk_n ?_
        refine seq_n ?_
        refine wc_region ?_
        refine reg_quiet rfl (step_C tab_ok (fun K hk => hk)) ?_
        refine reg_quiet rfl (add_int tab_ok rfl rfl (wrap_i64 (by omega) (by omega))) ?_
        refine reg_quiet rfl (step_C tab_ok (fun K hk => hk)) ?_
        refine reg_nil ?_
        exact loop_n (some ([], []), rest, n + 1) [(68, some 192), (69, some 193)] ⟨by rw [← hR], add_chk hc0 hA, add_ok hok hA, by omega, by omega⟩ (by show rest.length < s.length; omega) (.of rfl rfl rfl rfl rfl ⟨⟨_, rfl, .refl _⟩, rfl, ⟨_, rfl, .refl _⟩, rfl, ⟨_, rfl, .refl _⟩, rfl, ⟨_, rfl, .refl _⟩, rfl, trivial⟩ ⟨⟨rfl, rfl, _, rfl, .refl _⟩, ⟨rfl, rfl, _, rfl, .refl _⟩, ⟨rfl, rfl, _, rfl, .refl _⟩, ⟨rfl, chM_lt rfl _, _, rfl, leaf_ren rfl rfl rfl⟩, ⟨rfl, rfl, _, rfl, .refl _⟩, trivial⟩)
      · obtain ⟨h5, hadd0⟩ := add_none ht (by omega)
        have hR : parseP s0 [] 1 = ([], n, 5) := by
          rw [hP, show toL none = [] from rfl, h5]
          rfl
        rw [hR]
        refine wc_of ?_
        refine wc_seq ?_
        refine wc_seq ?_
        refine wc_region ?_
        refine reg_quiet rfl (step_C tab_ok (fun K hk => hk)) ?_
        refine reg_quiet rfl (neq_s (a := s) (b := []) tab_ok rfl rfl rfl) ?_
        refine reg_nil ?_
        refine seq_n ?_
        refine wc_true rfl (by assumption) ?_
        refine wc_skip ?_
        refine seq_n ?_
        refine wc_seq ?_
        refine wc_block ?_
        refine wc_seq ?_
        refine wc_region ?_
        refine reg_quiet rfl (step_C tab_ok (fun K hk => hk)) ?_
        refine reg_quiet rfl (call_r hc rfl rfl (arg_e (arg_e arg_nil)) (.inl rfl) (fun _ => rfl)) ?_
        refine reg_quiet rfl (step_C tab_ok (fun K hk => hk)) ?_
        refine reg_quiet rfl (step_C tab_ok (fun K hk => hk)) ?_
        refine reg_quiet rfl (step_C tab_ok (fun K hk => hk)) ?_
        refine reg_quiet rfl (step_C tab_ok (fun K hk => hk)) ?_
        refine reg_quiet rfl (step_C tab_ok (fun K hk => hk)) ?_
        refine reg_quiet rfl (step_C tab_ok (fun K hk => hk)) ?_
        refine reg_quiet rfl (step_C tab_ok (fun K hk => hk)) ?_
        refine reg_nil ?_
        refine seq_n ?_
        refine wc_seq ?_
        refine wc_seq ?_
        refine wc_region ?_
        refine reg_quiet rfl (step_C tab_ok (fun K hk => hk)) ?_
        refine reg_quiet rfl (step_C tab_ok (fun K hk => hk)) ?_
        refine reg_nil ?_
        refine seq_n ?_
        refine wc_false rfl rfl ?_
        refine wc_skip ?_
        refine seq_n ?_
        refine wc_seq ?_
        refine wc_seq ?_
        refine wc_region ?_
        refine reg_quiet rfl (step_C tab_ok (fun K hk => hk)) ?_
        refine reg_quiet rfl (step_C tab_ok (fun K hk => hk)) ?_
        refine reg_do rfl (call_h [(0, some 65), (1, some 66), (2, some 67), (3, some 68)] hadd0 rfl rfl rfl (arg_e (arg_ptr rfl rfl (arg_ptr rfl rfl arg_nil))) ⟨⟨rfl, rfl, _, _, rfl, rfl, .refl _⟩, ⟨rfl, rfl, _, _, rfl, rfl, .refl _⟩, ⟨rfl, rfl, _, _, rfl, rfl, .refl _⟩, ⟨rfl, rfl, _, _, rfl, rfl, .refl _⟩, trivial⟩ rfl rfl (.inl rfl) rfl rfl) rfl rfl ?_
        refine reg_quiet rfl (step_C tab_ok (fun K hk => hk)) ?_
        refine reg_nil ?_
        refine seq_n ?_
        refine wc_seq ?_
        refine wc_region ?_
        refine reg_quiet rfl (step_C tab_ok (fun K hk => hk)) ?_
        refine reg_quiet rfl (step_C tab_ok (fun K hk => hk)) ?_
        refine reg_nil ?_
        refine seq_n ?_
        refine wc_true rfl rfl ?_
        refine wc_seq ?_
        refine wc_region ?_
        refine reg_quiet rfl (step_C tab_ok (fun K hk => hk)) ?_
        refine reg_quiet rfl (step_C tab_ok (fun K hk => hk)) ?_
        refine reg_store (store_row tab_ok rfl rfl rfl ⟨_, ⟨rfl, rfl, rfl⟩, rfl⟩ rfl) ?_
        refine reg_quiet rfl (step_C tab_ok (fun K hk => hk)) ?_
        refine reg_quiet rfl (step_C tab_ok (fun K hk => hk)) ?_
        refine reg_nil ?_
        refine seq_n ?_
        refine wc_ret ?_
        refine seq_r ?_
        refine blk_r ?_
        refine seq_r ?_
        refine loop_r ?_
        refine blk_r ?_
        refine seq_r ?_
        exact ⟨trivial, _, rfl, [], .of rfl rfl rfl rfl rfl ⟨⟨_, rfl, AVLe.tup1 (nil_arx _ _) rfl⟩, rfl, trivial⟩ trivial⟩
    | some lp =>
      obtain ⟨l, p⟩ := lp
      obtain ⟨c1, c2⟩ := chkP_ok.1 hc0
      have hl8 : l.length + 1 ≤ 8 := by simpa [toL] using c1
      have hp64 : p.length ≤ 64 := by
        have := c2 p (by simp [toL])
        simp only [badP, Bool.or_eq_false_iff, decide_eq_false_iff_not] at this
        omega
      by_cases ht : tx = sClient
      · have hadd1 := add_client1 tx ht l p (by omega)
        by_cases hg : 8 < l.length + 2
        · rw [if_pos hg] at hadd1
          have hR : parseP s0 [] 1 = ([], n, 3) := by
            have h3 : (addP (toL (some (l, p))) tx).2 = 3 := by
              rw [show toL (some (l, p)) = l ++ [p] from rfl, addP, if_pos ht, if_pos (by simp; omega)]
            rw [hP, h3]
            rfl
          rw [hR]
          refine wc_of ?_
          refine wc_seq ?_
          refine wc_seq ?_
          refine wc_region ?_
          refine reg_quiet rfl (step_C tab_ok (fun K hk => hk)) ?_
          refine reg_quiet rfl (neq_s (a := s) (b := []) tab_ok rfl rfl rfl) ?_
          refine reg_nil ?_
          refine seq_n ?_
          refine wc_true rfl (by assumption) ?_
          refine wc_skip ?_
          refine seq_n ?_
          refine wc_seq ?_
          refine wc_block ?_
          refine wc_seq ?_
          refine wc_region ?_
          refine reg_quiet rfl (step_C tab_ok (fun K hk => hk)) ?_
          refine reg_quiet rfl (call_r hc rfl rfl (arg_e (arg_e arg_nil)) (.inl rfl) (fun _ => rfl)) ?_
          refine reg_quiet rfl (step_C tab_ok (fun K hk => hk)) ?_
          refine reg_quiet rfl (step_C tab_ok (fun K hk => hk)) ?_
          refine reg_quiet rfl (step_C tab_ok (fun K hk => hk)) ?_
          refine reg_quiet rfl (step_C tab_ok (fun K hk => hk)) ?_
          refine reg_quiet rfl (step_C tab_ok (fun K hk => hk)) ?_
          refine reg_quiet rfl (step_C tab_ok (fun K hk => hk)) ?_
          refine reg_quiet rfl (step_C tab_ok (fun K hk => hk)) ?_
          refine reg_nil ?_
          refine seq_n ?_
          refine wc_seq ?_
          refine wc_seq ?_
          refine wc_region ?_
          refine reg_quiet rfl (step_C tab_ok (fun K hk => hk)) ?_
          refine reg_quiet rfl (step_C tab_ok (fun K hk => hk)) ?_
          refine reg_nil ?_
          refine seq_n ?_
          refine wc_false rfl rfl ?_
          refine wc_skip ?_
          refine seq_n ?_
          refine wc_seq ?_
          refine wc_seq ?_
          refine wc_region ?_
          refine reg_quiet rfl (step_C tab_ok (fun K hk => hk)) ?_
          refine reg_quiet rfl (step_C tab_ok (fun K hk => hk)) ?_
          refine reg_do rfl (call_h [(0, some 65), (1, some 66), (2, some 67), (3, some 68), (4, some 69)] hadd1 rfl rfl rfl (arg_e (arg_ptr rfl rfl (arg_ptr rfl rfl arg_nil))) ⟨⟨rfl, rfl, _, _, rfl, rfl, .refl _⟩, ⟨rfl, rfl, _, _, rfl, rfl, .refl _⟩, ⟨rfl, rfl, _, _, rfl, rfl, .refl _⟩, ⟨rfl, chM_lt rfl _, _, _, rfl, rfl, leaf_keep rfl rfl⟩, ⟨rfl, rfl, _, _, rfl, rfl, .refl _⟩, trivial⟩ rfl rfl (.inl rfl) rfl rfl) rfl rfl ?_
          refine reg_quiet rfl (step_C tab_ok (fun K hk => hk)) ?_
          refine reg_nil ?_
          refine seq_n ?_
          refine wc_seq ?_
          refine wc_region ?_
          refine reg_quiet rfl (step_C tab_ok (fun K hk => hk)) ?_
          refine reg_quiet rfl (step_C tab_ok (fun K hk => hk)) ?_
          refine reg_nil ?_
          refine seq_n ?_
          refine wc_true rfl rfl ?_
          refine wc_seq ?_
          refine wc_region ?_
          refine reg_quiet rfl (step_C tab_ok (fun K hk => hk)) ?_
          refine reg_quiet rfl (step_C tab_ok (fun K hk => hk)) ?_
          refine reg_store (store_row tab_ok rfl rfl rfl ⟨_, ⟨rfl, rfl, rfl⟩, rfl⟩ rfl) ?_
          refine reg_quiet rfl (step_C tab_ok (fun K hk => hk)) ?_
          refine reg_quiet rfl (step_C tab_ok (fun K hk => hk)) ?_
          refine reg_nil ?_
          refine seq_n ?_
          refine wc_ret ?_
          refine seq_r ?_
          refine blk_r ?_
          refine seq_r ?_
          refine loop_r ?_
          refine blk_r ?_
          refine seq_r ?_
          exact ⟨trivial, _, rfl, [], .of rfl rfl rfl rfl rfl ⟨⟨_, rfl, AVLe.tup1 (nil_arx _ _) rfl⟩, rfl, trivial⟩ trivial⟩
        · rw [if_neg hg] at hadd1
          have hA : addP (toL (some (l, p))) tx = (toL (some (l ++ [p], [])), 0) := by
            rw [show toL (some (l, p)) = l ++ [p] from rfl, addP, if_pos ht, if_neg (by simp; omega)]
            rfl
          have hR : parseP s0 [] 1 = parseP rest (toL (some (l ++ [p], []))) (n + 1) := by rw [hP, hA]; rfl
          refine wc_of ?_
          refine wc_seq ?_
          refine wc_seq ?_
          refine wc_region ?_
          refine reg_quiet rfl (step_C tab_ok (fun K hk => hk)) ?_
          refine reg_quiet rfl (neq_s (a := s) (b := []) tab_ok rfl rfl rfl) ?_
          refine reg_nil ?_
          refine seq_n ?_
          refine wc_true rfl (by assumption) ?_
          refine wc_skip ?_
          refine seq_n ?_
          refine wc_seq ?_
          refine wc_block ?_
          refine wc_seq ?_
          refine wc_region ?_
          refine reg_quiet rfl (step_C tab_ok (fun K hk => hk)) ?_
          refine reg_quiet rfl (call_r hc rfl rfl (arg_e (arg_e arg_nil)) (.inl rfl) (fun _ => rfl)) ?_
          refine reg_quiet rfl (step_C tab_ok (fun K hk => hk)) ?_
          refine reg_quiet rfl (step_C tab_ok (fun K hk => hk)) ?_
          refine reg_quiet rfl (step_C tab_ok (fun K hk => hk)) ?_
          refine reg_quiet rfl (step_C tab_ok (fun K hk => hk)) ?_
          refine reg_quiet rfl (step_C tab_ok (fun K hk => hk)) ?_
          refine reg_quiet rfl (step_C tab_ok (fun K hk => hk)) ?_
          refine reg_quiet rfl (step_C tab_ok (fun K hk => hk)) ?_
          refine reg_nil ?_
          refine seq_n ?_
          refine wc_seq ?_
          refine wc_seq ?_
          refine wc_region ?_
          refine reg_quiet rfl (step_C tab_ok (fun K hk => hk)) ?_
          refine reg_quiet rfl (step_C tab_ok (fun K hk => hk)) ?_
          refine reg_nil ?_
          refine seq_n ?_
          refine wc_false rfl rfl ?_
          refine wc_skip ?_
          refine seq_n ?_
          refine wc_seq ?_
          refine wc_seq ?_
          refine wc_region ?_
          refine reg_quiet rfl (step_C tab_ok (fun K hk => hk)) ?_
          refine reg_quiet rfl (step_C tab_ok (fun K hk => hk)) ?_
          refine reg_do rfl (call_h [(0, some 65), (1, some 66), (2, some 67), (3, some 68), (4, some 69)] hadd1 rfl rfl rfl (arg_e (arg_ptr rfl rfl (arg_ptr rfl rfl arg_nil))) ⟨⟨rfl, rfl, _, _, rfl, rfl, .refl _⟩, ⟨rfl, rfl, _, _, rfl, rfl, .refl _⟩, ⟨rfl, rfl, _, _, rfl, rfl, .refl _⟩, ⟨rfl, chM_lt rfl _, _, _, rfl, rfl, leaf_keep rfl rfl⟩, ⟨rfl, rfl, _, _, rfl, rfl, .refl _⟩, trivial⟩ rfl rfl (.inl rfl) rfl rfl) rfl rfl ?_
          refine reg_quiet rfl (step_C tab_ok (fun K hk => hk)) ?_
          refine reg_nil ?_
          refine seq_n ?_
          refine wc_seq ?_
          refine wc_region ?_
          refine reg_quiet rfl (step_C tab_ok (fun K hk => hk)) ?_
          refine reg_quiet rfl (step_C tab_ok (fun K hk => hk)) ?_
          refine reg_nil ?_
          refine seq_n ?_
          refine wc_false rfl rfl ?_
          refine wc_skip ?_
          refine seq_n ?_
          refine wc_region ?_
          refine reg_quiet rfl (step_C tab_ok (fun K hk => hk)) ?_
          refine reg_quiet rfl (step_C tab_ok (fun K hk => hk)) ?_
          refine reg_nil ?_
          refine blk_n ?_
          refine seq_n ?_
          refine wc_region ?_
          refine reg_quiet rfl (step_C tab_ok (fun K hk => hk)) ?_
          refine reg_quiet rfl (add_int tab_ok rfl rfl (wrap_i64 (by omega) (by omega))) ?_
          refine reg_quiet rfl (step_C tab_ok (fun K hk => hk)) ?_
          refine reg_nil ?_
          exact loop_n (some (l ++ [p], []), rest, n + 1) [(68, some 192), (69, some 193)] ⟨by rw [← hR], add_chk hc0 hA, add_ok hok hA, by omega, by omega⟩ (by show rest.length < s.length; omega) (.of rfl rfl rfl rfl rfl ⟨⟨_, rfl, .refl _⟩, rfl, ⟨_, rfl, .refl _⟩, rfl, ⟨_, rfl, .refl _⟩, rfl, ⟨_, rfl, .refl _⟩, rfl, trivial⟩ ⟨⟨rfl, rfl, _, rfl, .refl _⟩, ⟨rfl, rfl, _, rfl, .refl _⟩, ⟨rfl, rfl, _, rfl, .refl _⟩, ⟨rfl, chM_lt rfl _, _, rfl, leaf_ren rfl rfl rfl⟩, ⟨rfl, rfl, _, rfl, .refl _⟩, trivial⟩)
      · rcases add_some ht (by omega) l p (by omega) (by omega) with ⟨e, he, h5, hadd1 | ⟨o, hadd1⟩⟩ | ⟨o, hA, hadd1⟩
        · have hne : (!decide (e = 0)) = true := by rw [decide_eq_false he]; rfl
          have hR : parseP s0 [] 1 = ([], n, e) := by
            rw [hP, show toL (some (l, p)) = l ++ [p] from rfl, h5, if_neg he]
          rw [hR]
          refine wc_of ?_
          refine wc_seq ?_
          refine wc_seq ?_
          refine wc_region ?_
          refine reg_quiet rfl (step_C tab_ok (fun K hk => hk)) ?_
          refine reg_quiet rfl (neq_s (a := s) (b := []) tab_ok rfl rfl rfl) ?_
          refine reg_nil ?_
          refine seq_n ?_
          refine wc_true rfl (by assumption) ?_
          refine wc_skip ?_
          refine seq_n ?_
          refine wc_seq ?_
          refine wc_block ?_
          refine wc_seq ?_
          refine wc_region ?_
          refine reg_quiet rfl (step_C tab_ok (fun K hk => hk)) ?_
          refine reg_quiet rfl (call_r hc rfl rfl (arg_e (arg_e arg_nil)) (.inl rfl) (fun _ => rfl)) ?_
          refine reg_quiet rfl (step_C tab_ok (fun K hk => hk)) ?_
          refine reg_quiet rfl (step_C tab_ok (fun K hk => hk)) ?_
          refine reg_quiet rfl (step_C tab_ok (fun K hk => hk)) ?_
          refine reg_quiet rfl (step_C tab_ok (fun K hk => hk)) ?_
          refine reg_quiet rfl (step_C tab_ok (fun K hk => hk)) ?_
          refine reg_quiet rfl (step_C tab_ok (fun K hk => hk)) ?_
          refine reg_quiet rfl (step_C tab_ok (fun K hk => hk)) ?_
          refine reg_nil ?_
          refine seq_n ?_
          refine wc_seq ?_
          refine wc_seq ?_
          refine wc_region ?_
          refine reg_quiet rfl (step_C tab_ok (fun K hk => hk)) ?_
          refine reg_quiet rfl (step_C tab_ok (fun K hk => hk)) ?_
          refine reg_nil ?_
          refine seq_n ?_
          refine wc_false rfl rfl ?_
          refine wc_skip ?_
          refine seq_n ?_
          refine wc_seq ?_
          refine wc_seq ?_
          refine wc_region ?_
          refine reg_quiet rfl (step_C tab_ok (fun K hk => hk)) ?_
          refine reg_quiet rfl (step_C tab_ok (fun K hk => hk)) ?_
          refine reg_do rfl (call_h [(0, some 65), (1, some 66), (2, some 67), (3, some 68), (4, some 69)] hadd1 rfl rfl rfl (arg_e (arg_ptr rfl rfl (arg_ptr rfl rfl arg_nil))) ⟨⟨rfl, rfl, _, _, rfl, rfl, .refl _⟩, ⟨rfl, rfl, _, _, rfl, rfl, .refl _⟩, ⟨rfl, rfl, _, _, rfl, rfl, .refl _⟩, ⟨rfl, chM_lt rfl _, _, _, rfl, rfl, leaf_keep rfl rfl⟩, ⟨rfl, rfl, _, _, rfl, rfl, .refl _⟩, trivial⟩ rfl rfl (.inl rfl) rfl rfl) rfl rfl ?_
          refine reg_quiet rfl (step_C tab_ok (fun K hk => hk)) ?_
          refine reg_nil ?_
          refine seq_n ?_
          refine wc_seq ?_
          refine wc_region ?_
          refine reg_quiet rfl (step_C tab_ok (fun K hk => hk)) ?_
          refine reg_quiet rfl (step_C tab_ok (fun K hk => hk)) ?_
          refine reg_nil ?_
          refine seq_n ?_
          refine wc_true rfl (by assumption) ?_
          refine wc_seq ?_
          refine wc_region ?_
          refine reg_quiet rfl (step_C tab_ok (fun K hk => hk)) ?_
          refine reg_quiet rfl (step_C tab_ok (fun K hk => hk)) ?_
          refine reg_store (store_row tab_ok rfl rfl rfl ⟨_, ⟨rfl, rfl, rfl⟩, rfl⟩ rfl) ?_
          refine reg_quiet rfl (step_C tab_ok (fun K hk => hk)) ?_
          refine reg_quiet rfl (step_C tab_ok (fun K hk => hk)) ?_
          refine reg_nil ?_
          refine seq_n ?_
          refine wc_ret ?_
          refine seq_r ?_
          refine blk_r ?_
          refine seq_r ?_
          refine loop_r ?_
          refine blk_r ?_
          refine seq_r ?_
          exact ⟨trivial, _, rfl, [], .of rfl rfl rfl rfl rfl ⟨⟨_, rfl, AVLe.tup1 (nil_arx _ _) rfl⟩, rfl, trivial⟩ trivial⟩
        · have hne : (!decide (e = 0)) = true := by rw [decide_eq_false he]; rfl
          have hR : parseP s0 [] 1 = ([], n, e) := by
            rw [hP, show toL (some (l, p)) = l ++ [p] from rfl, h5, if_neg he]
          rw [hR]
          refine wc_of ?_
          refine wc_seq ?_
          refine wc_seq ?_
          refine wc_region ?_
          refine reg_quiet rfl (step_C tab_ok (fun K hk => hk)) ?_
          refine reg_quiet rfl (neq_s (a := s) (b := []) tab_ok rfl rfl rfl) ?_
          refine reg_nil ?_
          refine seq_n ?_
          refine wc_true rfl (by assumption) ?_
          refine wc_skip ?_
          refine seq_n ?_
          refine wc_seq ?_
          refine wc_block ?_
          refine wc_seq ?_
          refine wc_region ?_
          refine reg_quiet rfl (step_C tab_ok (fun K hk => hk)) ?_
          refine reg_quiet rfl (call_r hc rfl rfl (arg_e (arg_e arg_nil)) (.inl rfl) (fun _ => rfl)) ?_
          refine reg_quiet rfl (step_C tab_ok (fun K hk => hk)) ?_
          refine reg_quiet rfl (step_C tab_ok (fun K hk => hk)) ?_
          refine reg_quiet rfl (step_C tab_ok (fun K hk => hk)) ?_
          refine reg_quiet rfl (step_C tab_ok (fun K hk => hk)) ?_
          refine reg_quiet rfl (step_C tab_ok (fun K hk => hk)) ?_
          refine reg_quiet rfl (step_C tab_ok (fun K hk => hk)) ?_
          refine reg_quiet rfl (step_C tab_ok (fun K hk => hk)) ?_
          refine reg_nil ?_
          refine seq_n ?_
          refine wc_seq ?_
          refine wc_seq ?_
          refine wc_region ?_
          refine reg_quiet rfl (step_C tab_ok (fun K hk => hk)) ?_
          refine reg_quiet rfl (step_C tab_ok (fun K hk => hk)) ?_
          refine reg_nil ?_
          refine seq_n ?_
          refine wc_false rfl rfl ?_
          refine wc_skip ?_
          refine seq_n ?_
          refine wc_seq ?_
          refine wc_seq ?_
          refine wc_region ?_
          refine reg_quiet rfl (step_C tab_ok (fun K hk => hk)) ?_
          refine reg_quiet rfl (step_C tab_ok (fun K hk => hk)) ?_
          refine reg_do rfl (call_h [(0, some 65), (1, some 66), (2, some 67), (3, some 68), (4, some 69)] hadd1 rfl rfl rfl (arg_e (arg_ptr rfl rfl (arg_ptr rfl rfl arg_nil))) ⟨⟨rfl, rfl, _, _, rfl, rfl, .refl _⟩, ⟨rfl, rfl, _, _, rfl, rfl, .refl _⟩, ⟨rfl, rfl, _, _, rfl, rfl, .refl _⟩, ⟨rfl, chM_lt rfl _, _, _, rfl, rfl, leaf_keep rfl rfl⟩, ⟨rfl, rfl, _, _, rfl, rfl, .refl _⟩, trivial⟩ rfl rfl (.inl rfl) rfl rfl) rfl rfl ?_
          refine reg_quiet rfl (step_C tab_ok (fun K hk => hk)) ?_
          refine reg_nil ?_
          refine seq_n ?_
          refine wc_seq ?_
          refine wc_region ?_
          refine reg_quiet rfl (step_C tab_ok (fun K hk => hk)) ?_
          refine reg_quiet rfl (step_C tab_ok (fun K hk => hk)) ?_
          refine reg_nil ?_
          refine seq_n ?_
          refine wc_true rfl (by assumption) ?_
          refine wc_seq ?_
          refine wc_region ?_
          refine reg_quiet rfl (step_C tab_ok (fun K hk => hk)) ?_
          refine reg_quiet rfl (step_C tab_ok (fun K hk => hk)) ?_
          refine reg_store (store_row tab_ok rfl rfl rfl ⟨_, ⟨rfl, rfl, rfl⟩, rfl⟩ rfl) ?_
          refine reg_quiet rfl (step_C tab_ok (fun K hk => hk)) ?_
          refine reg_quiet rfl (step_C tab_ok (fun K hk => hk)) ?_
          refine reg_nil ?_
          refine seq_n ?_
          refine wc_ret ?_
          refine seq_r ?_
          refine blk_r ?_
          refine seq_r ?_
          refine loop_r ?_
          refine blk_r ?_
          refine seq_r ?_
          exact ⟨trivial, _, rfl, [], .of rfl rfl rfl rfl rfl ⟨⟨_, rfl, AVLe.tup1 (nil_arx _ _) rfl⟩, rfl, trivial⟩ trivial⟩
        · replace hA : addP (toL (some (l, p))) tx = (toL (some (l, p ++ [o])), 0) := hA
          have hR : parseP s0 [] 1 = parseP rest (toL (some (l, p ++ [o]))) (n + 1) := by rw [hP, hA]; rfl
          refine wc_of ?_
          refine wc_seq ?_
          refine wc_seq ?_
          refine wc_region ?_
          refine reg_quiet rfl (step_C tab_ok (fun K hk => hk)) ?_
          refine reg_quiet rfl (neq_s (a := s) (b := []) tab_ok rfl rfl rfl) ?_
          refine reg_nil ?_
          refine seq_n ?_
          refine wc_true rfl (by assumption) ?_
          refine wc_skip ?_
          refine seq_n ?_
          refine wc_seq ?_
          refine wc_block ?_
          refine wc_seq ?_
          refine wc_region ?_
          refine reg_quiet rfl (step_C tab_ok (fun K hk => hk)) ?_
          refine reg_quiet rfl (call_r hc rfl rfl (arg_e (arg_e arg_nil)) (.inl rfl) (fun _ => rfl)) ?_
          refine reg_quiet rfl (step_C tab_ok (fun K hk => hk)) ?_
          refine reg_quiet rfl (step_C tab_ok (fun K hk => hk)) ?_
          refine reg_quiet rfl (step_C tab_ok (fun K hk => hk)) ?_
          refine reg_quiet rfl (step_C tab_ok (fun K hk => hk)) ?_
          refine reg_quiet rfl (step_C tab_ok (fun K hk => hk)) ?_
          refine reg_quiet rfl (step_C tab_ok (fun K hk => hk)) ?_
          refine reg_quiet rfl (step_C tab_ok (fun K hk => hk)) ?_
          refine reg_nil ?_
          refine seq_n ?_
          refine wc_seq ?_
          refine wc_seq ?_
          refine wc_region ?_
          refine reg_quiet rfl (step_C tab_ok (fun K hk => hk)) ?_
          refine reg_quiet rfl (step_C tab_ok (fun K hk => hk)) ?_
          refine reg_nil ?_
          refine seq_n ?_
          refine wc_false rfl rfl ?_
          refine wc_skip ?_
          refine seq_n ?_
          refine wc_seq ?_
          refine wc_seq ?_
          refine wc_region ?_
          refine reg_quiet rfl (step_C tab_ok (fun K hk => hk)) ?_
          refine reg_quiet rfl (step_C tab_ok (fun K hk => hk)) ?_
          refine reg_do rfl (call_h [(0, some 65), (1, some 66), (2, some 67), (3, some 68), (4, some 69)] hadd1 rfl rfl rfl (arg_e (arg_ptr rfl rfl (arg_ptr rfl rfl arg_nil))) ⟨⟨rfl, rfl, _, _, rfl, rfl, .refl _⟩, ⟨rfl, rfl, _, _, rfl, rfl, .refl _⟩, ⟨rfl, rfl, _, _, rfl, rfl, .refl _⟩, ⟨rfl, chM_lt rfl _, _, _, rfl, rfl, leaf_keep rfl rfl⟩, ⟨rfl, rfl, _, _, rfl, rfl, .refl _⟩, trivial⟩ rfl rfl (.inl rfl) rfl rfl) rfl rfl ?_
          refine reg_quiet rfl (step_C tab_ok (fun K hk => hk)) ?_
          refine reg_nil ?_
          refine seq_n ?_
          refine wc_seq ?_
          refine wc_region ?_
          refine reg_quiet rfl (step_C tab_ok (fun K hk => hk)) ?_
          refine reg_quiet rfl (step_C tab_ok (fun K hk => hk)) ?_
          refine reg_nil ?_
          refine seq_n ?_
          refine wc_false rfl rfl ?_
          refine wc_skip ?_
          refine seq_n ?_
          refine wc_region ?_
          refine reg_quiet rfl (step_C tab_ok (fun K hk => hk)) ?_
          refine reg_quiet rfl (step_C tab_ok (fun K hk => hk)) ?_
          refine reg_nil ?_
          refine blk_n ?_
          refine seq_n ?_
          refine wc_region ?_
          refine reg_quiet rfl (step_C tab_ok (fun K hk => hk)) ?_
          refine reg_quiet rfl (add_int tab_ok rfl rfl (wrap_i64 (by omega) (by omega))) ?_
          refine reg_quiet rfl (step_C tab_ok (fun K hk => hk)) ?_
          refine reg_nil ?_
          exact loop_n (some (l, p ++ [o]), rest, n + 1) [(69, some 193)] ⟨by rw [← hR], add_chk hc0 hA, add_ok hok hA, by omega, by omega⟩ (by show rest.length < s.length; omega) (.of rfl rfl rfl rfl rfl ⟨⟨_, rfl, .refl _⟩, rfl, ⟨_, rfl, .refl _⟩, rfl, ⟨_, rfl, .refl _⟩, rfl, ⟨_, rfl, .refl _⟩, rfl, trivial⟩ ⟨⟨rfl, rfl, _, rfl, .refl _⟩, ⟨rfl, rfl, _, rfl, .refl _⟩, ⟨rfl, rfl, _, rfl, .refl _⟩, ⟨rfl, chM_lt rfl _, _, rfl, leaf_ren rfl rfl rfl⟩, ⟨rfl, rfl, _, rfl, .refl _⟩, trivial⟩)
theorem parse_is (s : List UInt8) (hl : s.length ≤ 1048576) : FnIs Tryz.prog 47 [.d (strD s)] [] (parR (parseP s [] 1).1 (parseP s [] 1).2.1 (parseP s [] 1).2.2) [] := parse_main s hl
end Go.Proofs.YtmojbghcngdkpaaGreatDoor

namespace Go.Proofs.YtmojbghcngdkpaaGreatDoor
open Go.Eng Go.Plain
set_option maxHeartbeats 4000000
set_option maxRecDepth 20000
attribute [local irreducible] WC RegS RegD SeqQ BlkQ ScoQ RegK CutK Sat SatN FnIs LoopQ StepIs OpIs
def outO (o : POp) (b : Int) : Bool := decide (o.index < 0) || decide (b ≤ o.index)
/-- Bad. -/
def badO (o : POp) (b : Int) : Bool := if o.kind = 1 then outO o b else if o.kind = 2 then outO o b || !decide (o.data.length = 32) else !decide (o.kind = 3)
theorem len32 (o : POp) : decide (((byI o.data).length : Int) = 32) = decide (o.data.length = 32) := by
  rw [byI_len]
  by_cases h : o.data.length = 32
  · rw [decide_eq_true h, decide_eq_true (by omega)]
  · rw [decide_eq_false h, decide_eq_false (by omega)]
theorem bad_read (o : POp) (b : Int) (hk : o.kind = 1) (c1 c2 c3 : Bool) (h1 : decide (o.index < 0) = c1) (h2 : decide (b ≤ o.index) = c2) (h3 : decide (((byI o.data).length : Int) = 32) = c3) : FnIs Tryz.prog 40 [.d (encPOp o), .int .i64 b] [] (.bool (c1 || c2)) [] := by
  have hk1 : decide (o.kind = 1) = true := decide_eq_true (by omega)
  refine fnIs_of tab_ok Tryz.func40 rfl rfl rfl ?_
  cases c1 <;> cases c2 <;> cases c3
  · refine wc_seq ?_
    refine wc_region ?_
    refine reg_new (step_C tab_ok (fun K hk => hk)) rfl ?_
    refine reg_quiet rfl (step_C tab_ok (fun K hk => hk)) ?_
    refine reg_nil ?_
    refine seq_n ?_
    refine wc_seq ?_
    refine wc_region ?_
    refine reg_quiet rfl (step_C tab_ok (fun K hk => hk)) ?_
    refine reg_quiet rfl (load_box tab_ok rfl rfl ⟨_, rfl, rfl⟩ rfl) ?_
    refine reg_quiet rfl (step_C tab_ok (fun K hk => hk)) ?_
    refine reg_quiet rfl (step_C tab_ok (fun K hk => hk)) ?_
    refine reg_on rfl rfl (by assumption) ?_
    refine reg_quiet rfl (step_C tab_ok (fun K hk => hk)) ?_
    refine reg_on rfl rfl (by assumption) ?_
    refine reg_quiet rfl (load_box tab_ok rfl rfl ⟨_, rfl, rfl⟩ rfl) ?_
    refine reg_on rfl rfl (by assumption) ?_
    refine reg_quiet rfl (step_C tab_ok (fun K hk => hk)) ?_
    refine reg_on rfl rfl (by assumption) ?_
    refine reg_quiet rfl (step_C tab_ok (fun K hk => hk)) ?_
    refine reg_quiet rfl (pick_F tab_ok rfl (by assumption) rfl) ?_
    refine reg_quiet rfl (step_C tab_ok (fun K hk => hk)) ?_
    refine reg_nil ?_
    refine seq_n ?_
    refine wc_seq ?_
    refine wc_seq ?_
    refine wc_region ?_
    refine reg_quiet rfl (step_C tab_ok (fun K hk => hk)) ?_
    refine reg_quiet rfl (load_box tab_ok rfl rfl ⟨_, rfl, rfl⟩ rfl) ?_
    refine reg_nil ?_
    refine seq_n ?_
    refine wc_block ?_
    refine wc_seq ?_
    refine wc_region ?_
    refine reg_quiet rfl (step_C tab_ok (fun K hk => hk)) ?_
    refine reg_quiet rfl (step_C tab_ok (fun K hk => hk)) ?_
    refine reg_nil ?_
    refine seq_n ?_
    refine wc_true rfl (by assumption) ?_
    refine wc_seq ?_
    refine wc_region ?_
    refine reg_quiet rfl (step_C tab_ok (fun K hk => hk)) ?_
    refine reg_quiet rfl (step_C tab_ok (fun K hk => hk)) ?_
    refine reg_nil ?_
    refine seq_n ?_
    refine wc_ret ?_
    refine blk_r ?_
    refine seq_r ?_
    simp only [h1, h2]
    exact ⟨trivial, [], .of rfl rfl rfl rfl rfl ⟨⟨_, rfl, AVLe.of_eq rfl⟩, rfl, trivial⟩ trivial⟩
  · refine wc_seq ?_
    refine wc_region ?_
    refine reg_new (step_C tab_ok (fun K hk => hk)) rfl ?_
    refine reg_quiet rfl (step_C tab_ok (fun K hk => hk)) ?_
    refine reg_nil ?_
    refine seq_n ?_
    refine wc_seq ?_
    refine wc_region ?_
    refine reg_quiet rfl (step_C tab_ok (fun K hk => hk)) ?_
    refine reg_quiet rfl (load_box tab_ok rfl rfl ⟨_, rfl, rfl⟩ rfl) ?_
    refine reg_quiet rfl (step_C tab_ok (fun K hk => hk)) ?_
    refine reg_quiet rfl (step_C tab_ok (fun K hk => hk)) ?_
    refine reg_on rfl rfl (by assumption) ?_
    refine reg_quiet rfl (step_C tab_ok (fun K hk => hk)) ?_
    refine reg_on rfl rfl (by assumption) ?_
    refine reg_quiet rfl (load_box tab_ok rfl rfl ⟨_, rfl, rfl⟩ rfl) ?_
    refine reg_on rfl rfl (by assumption) ?_
    refine reg_quiet rfl (step_C tab_ok (fun K hk => hk)) ?_
    refine reg_on rfl rfl (by assumption) ?_
    refine reg_quiet rfl (step_C tab_ok (fun K hk => hk)) ?_
    refine reg_quiet rfl (pick_F tab_ok rfl (by assumption) rfl) ?_
    refine reg_quiet rfl (step_C tab_ok (fun K hk => hk)) ?_
    refine reg_nil ?_
    refine seq_n ?_
    refine wc_seq ?_
    refine wc_seq ?_
    refine wc_region ?_
    refine reg_quiet rfl (step_C tab_ok (fun K hk => hk)) ?_
    refine reg_quiet rfl (load_box tab_ok rfl rfl ⟨_, rfl, rfl⟩ rfl) ?_
    refine reg_nil ?_
    refine seq_n ?_
    refine wc_block ?_
    refine wc_seq ?_
    refine wc_region ?_
    refine reg_quiet rfl (step_C tab_ok (fun K hk => hk)) ?_
    refine reg_quiet rfl (step_C tab_ok (fun K hk => hk)) ?_
    refine reg_nil ?_
    refine seq_n ?_
    refine wc_true rfl (by assumption) ?_
    refine wc_seq ?_
    refine wc_region ?_
    refine reg_quiet rfl (step_C tab_ok (fun K hk => hk)) ?_
    refine reg_quiet rfl (step_C tab_ok (fun K hk => hk)) ?_
    refine reg_nil ?_
    refine seq_n ?_
    refine wc_ret ?_
    refine blk_r ?_
    refine seq_r ?_
    simp only [h1, h2]
    exact ⟨trivial, [], .of rfl rfl rfl rfl rfl ⟨⟨_, rfl, AVLe.of_eq rfl⟩, rfl, trivial⟩ trivial⟩
  · refine wc_seq ?_
    refine wc_region ?_
    refine reg_new (step_C tab_ok (fun K hk => hk)) rfl ?_
    refine reg_quiet rfl (step_C tab_ok (fun K hk => hk)) ?_
    refine reg_nil ?_
    refine seq_n ?_
    refine wc_seq ?_
    refine wc_region ?_
    refine reg_quiet rfl (step_C tab_ok (fun K hk => hk)) ?_
    refine reg_quiet rfl (load_box tab_ok rfl rfl ⟨_, rfl, rfl⟩ rfl) ?_
    refine reg_quiet rfl (step_C tab_ok (fun K hk => hk)) ?_
    refine reg_quiet rfl (step_C tab_ok (fun K hk => hk)) ?_
    refine reg_on rfl rfl (by assumption) ?_
    refine reg_quiet rfl (step_C tab_ok (fun K hk => hk)) ?_
    refine reg_on rfl rfl (by assumption) ?_
    refine reg_quiet rfl (load_box tab_ok rfl rfl ⟨_, rfl, rfl⟩ rfl) ?_
    refine reg_on rfl rfl (by assumption) ?_
    refine reg_quiet rfl (step_C tab_ok (fun K hk => hk)) ?_
    refine reg_on rfl rfl (by assumption) ?_
    refine reg_quiet rfl (step_C tab_ok (fun K hk => hk)) ?_
    refine reg_quiet rfl (pick_F tab_ok rfl (by assumption) rfl) ?_
    refine reg_quiet rfl (step_C tab_ok (fun K hk => hk)) ?_
    refine reg_nil ?_
    refine seq_n ?_
    refine wc_seq ?_
    refine wc_seq ?_
    refine wc_region ?_
    refine reg_quiet rfl (step_C tab_ok (fun K hk => hk)) ?_
    refine reg_quiet rfl (load_box tab_ok rfl rfl ⟨_, rfl, rfl⟩ rfl) ?_
    refine reg_nil ?_
    refine seq_n ?_
    refine wc_block ?_
    refine wc_seq ?_
    refine wc_region ?_
    refine reg_quiet rfl (step_C tab_ok (fun K hk => hk)) ?_
    refine reg_quiet rfl (step_C tab_ok (fun K hk => hk)) ?_
    refine reg_nil ?_
    refine seq_n ?_
    refine wc_true rfl (by assumption) ?_
    refine wc_seq ?_
    refine wc_region ?_
    refine reg_quiet rfl (step_C tab_ok (fun K hk => hk)) ?_
    refine reg_quiet rfl (step_C tab_ok (fun K hk => hk)) ?_
    refine reg_nil ?_
    refine seq_n ?_
    refine wc_ret ?_
    refine blk_r ?_
    refine seq_r ?_
    simp only [h1, h2]
    exact ⟨trivial, [], .of rfl rfl rfl rfl rfl ⟨⟨_, rfl, AVLe.of_eq rfl⟩, rfl, trivial⟩ trivial⟩
  · refine wc_seq ?_
    refine wc_region ?_
    refine reg_new (step_C tab_ok (fun K hk => hk)) rfl ?_
    refine reg_quiet rfl (step_C tab_ok (fun K hk => hk)) ?_
    refine reg_nil ?_
    refine seq_n ?_
    refine wc_seq ?_
    refine wc_region ?_
    refine reg_quiet rfl (step_C tab_ok (fun K hk => hk)) ?_
    refine reg_quiet rfl (load_box tab_ok rfl rfl ⟨_, rfl, rfl⟩ rfl) ?_
    refine reg_quiet rfl (step_C tab_ok (fun K hk => hk)) ?_
    refine reg_quiet rfl (step_C tab_ok (fun K hk => hk)) ?_
    refine reg_on rfl rfl (by assumption) ?_
    refine reg_quiet rfl (step_C tab_ok (fun K hk => hk)) ?_
    refine reg_on rfl rfl (by assumption) ?_
    refine reg_quiet rfl (load_box tab_ok rfl rfl ⟨_, rfl, rfl⟩ rfl) ?_
    refine reg_on rfl rfl (by assumption) ?_
    refine reg_quiet rfl (step_C tab_ok (fun K hk => hk)) ?_
    refine reg_on rfl rfl (by assumption) ?_
    refine reg_quiet rfl (step_C tab_ok (fun K hk => hk)) ?_
    refine reg_quiet rfl (pick_F tab_ok rfl (by assumption) rfl) ?_
    refine reg_quiet rfl (step_C tab_ok (fun K hk => hk)) ?_
    refine reg_nil ?_
    refine seq_n ?_
    refine wc_seq ?_
    refine wc_seq ?_
    refine wc_region ?_
    refine reg_quiet rfl (step_C tab_ok (fun K hk => hk)) ?_
    refine reg_quiet rfl (load_box tab_ok rfl rfl ⟨_, rfl, rfl⟩ rfl) ?_
    refine reg_nil ?_
    refine seq_n ?_
    refine wc_block ?_
    refine wc_seq ?_
    refine wc_region ?_
    refine reg_quiet rfl (step_C tab_ok (fun K hk => hk)) ?_
    refine reg_quiet rfl (step_C tab_ok (fun K hk => hk)) ?_
    refine reg_nil ?_
    refine seq_n ?_
    refine wc_true rfl (by assumption) ?_
    refine wc_seq ?_
    refine wc_region ?_
    refine reg_quiet rfl (step_C tab_ok (fun K hk => hk)) ?_
    refine reg_quiet rfl (step_C tab_ok (fun K hk => hk)) ?_
    refine reg_nil ?_
    refine seq_n ?_
    refine wc_ret ?_
    refine blk_r ?_
    refine seq_r ?_
    simp only [h1, h2]
    exact ⟨trivial, [], .of rfl rfl rfl rfl rfl ⟨⟨_, rfl, AVLe.of_eq rfl⟩, rfl, trivial⟩ trivial⟩
  · refine wc_seq ?_
    refine wc_region ?_
    refine reg_new (step_C tab_ok (fun K hk => hk)) rfl ?_
    refine reg_quiet rfl (step_C tab_ok (fun K hk => hk)) ?_
    refine reg_nil ?_
    refine seq_n ?_
    refine wc_seq ?_
    refine wc_region ?_
    refine reg_quiet rfl (step_C tab_ok (fun K hk => hk)) ?_
    refine reg_quiet rfl (load_box tab_ok rfl rfl ⟨_, rfl, rfl⟩ rfl) ?_
    refine reg_quiet rfl (step_C tab_ok (fun K hk => hk)) ?_
    refine reg_quiet rfl (step_C tab_ok (fun K hk => hk)) ?_
    refine reg_skip rfl rfl (by assumption) rfl rfl ?_
    refine reg_skip rfl rfl (by assumption) rfl rfl ?_
    refine reg_skip rfl rfl (by assumption) rfl rfl ?_
    refine reg_skip rfl rfl (by assumption) rfl rfl ?_
    refine reg_quiet rfl (pick_T tab_ok rfl (by assumption) rfl) ?_
    refine reg_quiet rfl (step_C tab_ok (fun K hk => hk)) ?_
    refine reg_nil ?_
    refine seq_n ?_
    refine wc_seq ?_
    refine wc_seq ?_
    refine wc_region ?_
    refine reg_quiet rfl (step_C tab_ok (fun K hk => hk)) ?_
    refine reg_quiet rfl (load_box tab_ok rfl rfl ⟨_, rfl, rfl⟩ rfl) ?_
    refine reg_nil ?_
    refine seq_n ?_
    refine wc_block ?_
    refine wc_seq ?_
    refine wc_region ?_
    refine reg_quiet rfl (step_C tab_ok (fun K hk => hk)) ?_
    refine reg_quiet rfl (step_C tab_ok (fun K hk => hk)) ?_
    refine reg_nil ?_
    refine seq_n ?_
    refine wc_true rfl (by assumption) ?_
    refine wc_seq ?_
    refine wc_region ?_
    refine reg_quiet rfl (step_C tab_ok (fun K hk => hk)) ?_
    refine reg_quiet rfl (step_C tab_ok (fun K hk => hk)) ?_
    refine reg_nil ?_
    refine seq_n ?_
    refine wc_ret ?_
    refine blk_r ?_
    refine seq_r ?_
    simp only [h1, h2]
    exact ⟨trivial, [], .of rfl rfl rfl rfl rfl ⟨⟨_, rfl, AVLe.of_eq rfl⟩, rfl, trivial⟩ trivial⟩
  · refine wc_seq ?_
    refine wc_region ?_
    refine reg_new (step_C tab_ok (fun K hk => hk)) rfl ?_
    refine reg_quiet rfl (step_C tab_ok (fun K hk => hk)) ?_
    refine reg_nil ?_
    refine seq_n ?_
    refine wc_seq ?_
    refine wc_region ?_
    refine reg_quiet rfl (step_C tab_ok (fun K hk => hk)) ?_
    refine reg_quiet rfl (load_box tab_ok rfl rfl ⟨_, rfl, rfl⟩ rfl) ?_
    refine reg_quiet rfl (step_C tab_ok (fun K hk => hk)) ?_
    refine reg_quiet rfl (step_C tab_ok (fun K hk => hk)) ?_
    refine reg_skip rfl rfl (by assumption) rfl rfl ?_
    refine reg_skip rfl rfl (by assumption) rfl rfl ?_
    refine reg_skip rfl rfl (by assumption) rfl rfl ?_
    refine reg_skip rfl rfl (by assumption) rfl rfl ?_
    refine reg_quiet rfl (pick_T tab_ok rfl (by assumption) rfl) ?_
    refine reg_quiet rfl (step_C tab_ok (fun K hk => hk)) ?_
    refine reg_nil ?_
    refine seq_n ?_
    refine wc_seq ?_
    refine wc_seq ?_
    refine wc_region ?_
    refine reg_quiet rfl (step_C tab_ok (fun K hk => hk)) ?_
    refine reg_quiet rfl (load_box tab_ok rfl rfl ⟨_, rfl, rfl⟩ rfl) ?_
    refine reg_nil ?_
    refine seq_n ?_
    refine wc_block ?_
    refine wc_seq ?_
    refine wc_region ?_
    refine reg_quiet rfl (step_C tab_ok (fun K hk => hk)) ?_
    refine reg_quiet rfl (step_C tab_ok (fun K hk => hk)) ?_
    refine reg_nil ?_
    refine seq_n ?_
    refine wc_true rfl (by assumption) ?_
    refine wc_seq ?_
    refine wc_region ?_
    refine reg_quiet rfl (step_C tab_ok (fun K hk => hk)) ?_
    refine reg_quiet rfl (step_C tab_ok (fun K hk => hk)) ?_
    refine reg_nil ?_
    refine seq_n ?_
    refine wc_ret ?_
    refine blk_r ?_
    refine seq_r ?_
    simp only [h1, h2]
    exact ⟨trivial, [], .of rfl rfl rfl rfl rfl ⟨⟨_, rfl, AVLe.of_eq rfl⟩, rfl, trivial⟩ trivial⟩
  · refine wc_seq ?_
    refine wc_region ?_
    refine reg_new (step_C tab_ok (fun K hk => hk)) rfl ?_
    refine reg_quiet rfl (step_C tab_ok (fun K hk => hk)) ?_
    refine reg_nil ?_
    refine seq_n ?_
    refine wc_seq ?_
    refine wc_region ?_
    refine reg_quiet rfl (step_C tab_ok (fun K hk => hk)) ?_
    refine reg_quiet rfl (load_box tab_ok rfl rfl ⟨_, rfl, rfl⟩ rfl) ?_
    refine reg_quiet rfl (step_C tab_ok (fun K hk => hk)) ?_
    refine reg_quiet rfl (step_C tab_ok (fun K hk => hk)) ?_
    refine reg_skip rfl rfl (by assumption) rfl rfl ?_
    refine reg_skip rfl rfl (by assumption) rfl rfl ?_
    refine reg_skip rfl rfl (by assumption) rfl rfl ?_
    refine reg_skip rfl rfl (by assumption) rfl rfl ?_
    refine reg_quiet rfl (pick_T tab_ok rfl (by assumption) rfl) ?_
    refine reg_quiet rfl (step_C tab_ok (fun K hk => hk)) ?_
    refine reg_nil ?_
    refine seq_n ?_
    refine wc_seq ?_
    refine wc_seq ?_
    refine wc_region ?_
    refine reg_quiet rfl (step_C tab_ok (fun K hk => hk)) ?_
    refine reg_quiet rfl (load_box tab_ok rfl rfl ⟨_, rfl, rfl⟩ rfl) ?_
    refine reg_nil ?_
    refine seq_n ?_
    refine wc_block ?_
    refine wc_seq ?_
    refine wc_region ?_
    refine reg_quiet rfl (step_C tab_ok (fun K hk => hk)) ?_
    refine reg_quiet rfl (step_C tab_ok (fun K hk => hk)) ?_
    refine reg_nil ?_
    refine seq_n ?_
    refine wc_true rfl (by assumption) ?_
    refine wc_seq ?_
    refine wc_region ?_
    refine reg_quiet rfl (step_C tab_ok (fun K hk => hk)) ?_
    refine reg_quiet rfl (step_C tab_ok (fun K hk => hk)) ?_
    refine reg_nil ?_
    refine seq_n ?_
    refine wc_ret ?_
    refine blk_r ?_
    refine seq_r ?_
    simp only [h1, h2]
    exact ⟨trivial, [], .of rfl rfl rfl rfl rfl ⟨⟨_, rfl, AVLe.of_eq rfl⟩, rfl, trivial⟩ trivial⟩
  · refine wc_seq ?_
    refine wc_region ?_
    refine reg_new (step_C tab_ok (fun K hk => hk)) rfl ?_
    refine reg_quiet rfl (step_C tab_ok (fun K hk => hk)) ?_
    refine reg_nil ?_
    refine seq_n ?_
    refine wc_seq ?_
    refine wc_region ?_
    refine reg_quiet rfl (step_C tab_ok (fun K hk => hk)) ?_
    refine reg_quiet rfl (load_box tab_ok rfl rfl ⟨_, rfl, rfl⟩ rfl) ?_
    refine reg_quiet rfl (step_C tab_ok (fun K hk => hk)) ?_
    refine reg_quiet rfl (step_C tab_ok (fun K hk => hk)) ?_
    refine reg_skip rfl rfl (by assumption) rfl rfl ?_
    refine reg_skip rfl rfl (by assumption) rfl rfl ?_
    refine reg_skip rfl rfl (by assumption) rfl rfl ?_
    refine reg_skip rfl rfl (by assumption) rfl rfl ?_
    refine reg_quiet rfl (pick_T tab_ok rfl (by assumption) rfl) ?_
    refine reg_quiet rfl (step_C tab_ok (fun K hk => hk)) ?_
    refine reg_nil ?_
    refine seq_n ?_
    refine wc_seq ?_
    refine wc_seq ?_
    refine wc_region ?_
    refine reg_quiet rfl (step_C tab_ok (fun K hk => hk)) ?_
    refine reg_quiet rfl (load_box tab_ok rfl rfl ⟨_, rfl, rfl⟩ rfl) ?_
    refine reg_nil ?_
    refine seq_n ?_
    refine wc_block ?_
    refine wc_seq ?_
    refine wc_region ?_
    refine reg_quiet rfl (step_C tab_ok (fun K hk => hk)) ?_
    refine reg_quiet rfl (step_C tab_ok (fun K hk => hk)) ?_
    refine reg_nil ?_
    refine seq_n ?_
    refine wc_true rfl (by assumption) ?_
    refine wc_seq ?_
    refine wc_region ?_
    refine reg_quiet rfl (step_C tab_ok (fun K hk => hk)) ?_
    refine reg_quiet rfl (step_C tab_ok (fun K hk => hk)) ?_
    refine reg_nil ?_
    refine seq_n ?_
    refine wc_ret ?_
    refine blk_r ?_
    refine seq_r ?_
    simp only [h1, h2]
    exact ⟨trivial, [], .of rfl rfl rfl rfl rfl ⟨⟨_, rfl, AVLe.of_eq rfl⟩, rfl, trivial⟩ trivial⟩
theorem bad_write (o : POp) (b : Int) (hk : o.kind = 2) (c1 c2 c3 : Bool) (h1 : decide (o.index < 0) = c1) (h2 : decide (b ≤ o.index) = c2) (h3 : decide (((byI o.data).length : Int) = 32) = c3) : FnIs Tryz.prog 40 [.d (encPOp o), .int .i64 b] [] (.bool (c1 || c2 || !c3)) [] := by
  have hk1 : decide (o.kind = 1) = false := decide_eq_false (by omega)
  have hk2 : decide (o.kind = 2) = true := decide_eq_true (by omega)
  refine fnIs_of tab_ok Tryz.func40 rfl rfl rfl ?_
  cases c1 <;> cases c2 <;> cases c3
  · refine wc_seq ?_
    refine wc_region ?_
    refine reg_new (step_C tab_ok (fun K hk => hk)) rfl ?_
    refine reg_quiet rfl (step_C tab_ok (fun K hk => hk)) ?_
    refine reg_nil ?_
    refine seq_n ?_
    refine wc_seq ?_
    refine wc_region ?_
    refine reg_quiet rfl (step_C tab_ok (fun K hk => hk)) ?_
    refine reg_quiet rfl (load_box tab_ok rfl rfl ⟨_, rfl, rfl⟩ rfl) ?_
    refine reg_quiet rfl (step_C tab_ok (fun K hk => hk)) ?_
    refine reg_quiet rfl (step_C tab_ok (fun K hk => hk)) ?_
    refine reg_on rfl rfl (by assumption) ?_
    refine reg_quiet rfl (step_C tab_ok (fun K hk => hk)) ?_
    refine reg_on rfl rfl (by assumption) ?_
    refine reg_quiet rfl (load_box tab_ok rfl rfl ⟨_, rfl, rfl⟩ rfl) ?_
    refine reg_on rfl rfl (by assumption) ?_
    refine reg_quiet rfl (step_C tab_ok (fun K hk => hk)) ?_
    refine reg_on rfl rfl (by assumption) ?_
    refine reg_quiet rfl (step_C tab_ok (fun K hk => hk)) ?_
    refine reg_quiet rfl (pick_F tab_ok rfl (by assumption) rfl) ?_
    refine reg_quiet rfl (step_C tab_ok (fun K hk => hk)) ?_
    refine reg_nil ?_
    refine seq_n ?_
    refine wc_seq ?_
    refine wc_seq ?_
    refine wc_region ?_
    refine reg_quiet rfl (step_C tab_ok (fun K hk => hk)) ?_
    refine reg_quiet rfl (load_box tab_ok rfl rfl ⟨_, rfl, rfl⟩ rfl) ?_
    refine reg_nil ?_
    refine seq_n ?_
    refine wc_block ?_
    refine wc_seq ?_
    refine wc_region ?_
    refine reg_quiet rfl (step_C tab_ok (fun K hk => hk)) ?_
    refine reg_quiet rfl (step_C tab_ok (fun K hk => hk)) ?_
    refine reg_nil ?_
    refine seq_n ?_
    refine wc_false rfl (by assumption) ?_
    refine wc_seq ?_
    refine wc_region ?_
    refine reg_quiet rfl (step_C tab_ok (fun K hk => hk)) ?_
    refine reg_quiet rfl (step_C tab_ok (fun K hk => hk)) ?_
    refine reg_nil ?_
    refine seq_n ?_
    refine wc_true rfl (by assumption) ?_
    refine wc_seq ?_
    refine wc_region ?_
    refine reg_quiet rfl (step_C tab_ok (fun K hk => hk)) ?_
    refine reg_quiet rfl (step_C tab_ok (fun K hk => hk)) ?_
    refine reg_on rfl rfl (by assumption) ?_
    refine reg_quiet rfl (step_C tab_ok (fun K hk => hk)) ?_
    refine reg_on rfl rfl (by assumption) ?_
    refine reg_quiet rfl (load_box tab_ok rfl rfl ⟨_, rfl, rfl⟩ rfl) ?_
    refine reg_on rfl rfl (by assumption) ?_
    refine reg_quiet rfl (len_arr tab_ok rfl rfl) ?_
    refine reg_on rfl rfl (by assumption) ?_
    refine reg_quiet rfl (step_C tab_ok (fun K hk => hk)) ?_
    refine reg_quiet rfl (pick_F tab_ok rfl (by assumption) rfl) ?_
    refine reg_quiet rfl (step_C tab_ok (fun K hk => hk)) ?_
    refine reg_nil ?_
    refine seq_n ?_
    refine wc_ret ?_
    refine blk_r ?_
    refine seq_r ?_
    simp only [h1, h2, h3]
    exact ⟨trivial, [], .of rfl rfl rfl rfl rfl ⟨⟨_, rfl, AVLe.of_eq rfl⟩, rfl, trivial⟩ trivial⟩
  · refine wc_seq ?_
    refine wc_region ?_
    refine reg_new (step_C tab_ok (fun K hk => hk)) rfl ?_
    refine reg_quiet rfl (step_C tab_ok (fun K hk => hk)) ?_
    refine reg_nil ?_
    refine seq_n ?_
    refine wc_seq ?_
    refine wc_region ?_
    refine reg_quiet rfl (step_C tab_ok (fun K hk => hk)) ?_
    refine reg_quiet rfl (load_box tab_ok rfl rfl ⟨_, rfl, rfl⟩ rfl) ?_
    refine reg_quiet rfl (step_C tab_ok (fun K hk => hk)) ?_
    refine reg_quiet rfl (step_C tab_ok (fun K hk => hk)) ?_
    refine reg_on rfl rfl (by assumption) ?_
    refine reg_quiet rfl (step_C tab_ok (fun K hk => hk)) ?_
    refine reg_on rfl rfl (by assumption) ?_
    refine reg_quiet rfl (load_box tab_ok rfl rfl ⟨_, rfl, rfl⟩ rfl) ?_
    refine reg_on rfl rfl (by assumption) ?_
    refine reg_quiet rfl (step_C tab_ok (fun K hk => hk)) ?_
    refine reg_on rfl rfl (by assumption) ?_
    refine reg_quiet rfl (step_C tab_ok (fun K hk => hk)) ?_
    refine reg_quiet rfl (pick_F tab_ok rfl (by assumption) rfl) ?_
    refine reg_quiet rfl (step_C tab_ok (fun K hk => hk)) ?_
    refine reg_nil ?_
    refine seq_n ?_
    refine wc_seq ?_
    refine wc_seq ?_
    refine wc_region ?_
    refine reg_quiet rfl (step_C tab_ok (fun K hk => hk)) ?_
    refine reg_quiet rfl (load_box tab_ok rfl rfl ⟨_, rfl, rfl⟩ rfl) ?_
    refine reg_nil ?_
    refine seq_n ?_
    refine wc_block ?_
    refine wc_seq ?_
    refine wc_region ?_
    refine reg_quiet rfl (step_C tab_ok (fun K hk => hk)) ?_
    refine reg_quiet rfl (step_C tab_ok (fun K hk => hk)) ?_
    refine reg_nil ?_
    refine seq_n ?_
    refine wc_false rfl (by assumption) ?_
    refine wc_seq ?_
    refine wc_region ?_
    refine reg_quiet rfl (step_C tab_ok (fun K hk => hk)) ?_
    refine reg_quiet rfl (step_C tab_ok (fun K hk => hk)) ?_
    refine reg_nil ?_
    refine seq_n ?_
    refine wc_true rfl (by assumption) ?_
    refine wc_seq ?_
    refine wc_region ?_
    refine reg_quiet rfl (step_C tab_ok (fun K hk => hk)) ?_
    refine reg_quiet rfl (step_C tab_ok (fun K hk => hk)) ?_
    refine reg_on rfl rfl (by assumption) ?_
    refine reg_quiet rfl (step_C tab_ok (fun K hk => hk)) ?_
    refine reg_on rfl rfl (by assumption) ?_
    refine reg_quiet rfl (load_box tab_ok rfl rfl ⟨_, rfl, rfl⟩ rfl) ?_
    refine reg_on rfl rfl (by assumption) ?_
    refine reg_quiet rfl (len_arr tab_ok rfl rfl) ?_
    refine reg_on rfl rfl (by assumption) ?_
    refine reg_quiet rfl (step_C tab_ok (fun K hk => hk)) ?_
    refine reg_quiet rfl (pick_F tab_ok rfl (by assumption) rfl) ?_
    refine reg_quiet rfl (step_C tab_ok (fun K hk => hk)) ?_
    refine reg_nil ?_
    refine seq_n ?_
    refine wc_ret ?_
    refine blk_r ?_
    refine seq_r ?_
    simp only [h1, h2, h3]
    exact ⟨trivial, [], .of rfl rfl rfl rfl rfl ⟨⟨_, rfl, AVLe.of_eq rfl⟩, rfl, trivial⟩ trivial⟩
  · refine wc_seq ?_
    refine wc_region ?_
    refine reg_new (step_C tab_ok (fun K hk => hk)) rfl ?_
    refine reg_quiet rfl (step_C tab_ok (fun K hk => hk)) ?_
    refine reg_nil ?_
    refine seq_n ?_
    refine wc_seq ?_
    refine wc_region ?_
    refine reg_quiet rfl (step_C tab_ok (fun K hk => hk)) ?_
    refine reg_quiet rfl (load_box tab_ok rfl rfl ⟨_, rfl, rfl⟩ rfl) ?_
    refine reg_quiet rfl (step_C tab_ok (fun K hk => hk)) ?_
    refine reg_quiet rfl (step_C tab_ok (fun K hk => hk)) ?_
    refine reg_on rfl rfl (by assumption) ?_
    refine reg_quiet rfl (step_C tab_ok (fun K hk => hk)) ?_
    refine reg_on rfl rfl (by assumption) ?_
    refine reg_quiet rfl (load_box tab_ok rfl rfl ⟨_, rfl, rfl⟩ rfl) ?_
    refine reg_on rfl rfl (by assumption) ?_
    refine reg_quiet rfl (step_C tab_ok (fun K hk => hk)) ?_
    refine reg_on rfl rfl (by assumption) ?_
    refine reg_quiet rfl (step_C tab_ok (fun K hk => hk)) ?_
    refine reg_quiet rfl (pick_F tab_ok rfl (by assumption) rfl) ?_
    refine reg_quiet rfl (step_C tab_ok (fun K hk => hk)) ?_
    refine reg_nil ?_
    refine seq_n ?_
    refine wc_seq ?_
    refine wc_seq ?_
    refine wc_region ?_
    refine reg_quiet rfl (step_C tab_ok (fun K hk => hk)) ?_
    refine reg_quiet rfl (load_box tab_ok rfl rfl ⟨_, rfl, rfl⟩ rfl) ?_
    refine reg_nil ?_
    refine seq_n ?_
    refine wc_block ?_
    refine wc_seq ?_
    refine wc_region ?_
    refine reg_quiet rfl (step_C tab_ok (fun K hk => hk)) ?_
    refine reg_quiet rfl (step_C tab_ok (fun K hk => hk)) ?_
    refine reg_nil ?_
    refine seq_n ?_
    refine wc_false rfl (by assumption) ?_
    refine wc_seq ?_
    refine wc_region ?_
    refine reg_quiet rfl (step_C tab_ok (fun K hk => hk)) ?_
    refine reg_quiet rfl (step_C tab_ok (fun K hk => hk)) ?_
    refine reg_nil ?_
    refine seq_n ?_
    refine wc_true rfl (by assumption) ?_
    refine wc_seq ?_
    refine wc_region ?_
    refine reg_quiet rfl (step_C tab_ok (fun K hk => hk)) ?_
    refine reg_quiet rfl (step_C tab_ok (fun K hk => hk)) ?_
    refine reg_skip rfl rfl (by assumption) rfl rfl ?_
    refine reg_skip rfl rfl (by assumption) rfl rfl ?_
    refine reg_skip rfl rfl (by assumption) rfl rfl ?_
    refine reg_skip rfl rfl (by assumption) rfl rfl ?_
    refine reg_quiet rfl (pick_T tab_ok rfl (by assumption) rfl) ?_
    refine reg_quiet rfl (step_C tab_ok (fun K hk => hk)) ?_
    refine reg_nil ?_
    refine seq_n ?_
    refine wc_ret ?_
    refine blk_r ?_
    refine seq_r ?_
    simp only [h1, h2, h3]
    exact ⟨trivial, [], .of rfl rfl rfl rfl rfl ⟨⟨_, rfl, AVLe.of_eq rfl⟩, rfl, trivial⟩ trivial⟩
  · refine wc_seq ?_
    refine wc_region ?_
    refine reg_new (step_C tab_ok (fun K hk => hk)) rfl ?_
    refine reg_quiet rfl (step_C tab_ok (fun K hk => hk)) ?_
    refine reg_nil ?_
    refine seq_n ?_
    refine wc_seq ?_
    refine wc_region ?_
    refine reg_quiet rfl (step_C tab_ok (fun K hk => hk)) ?_
    refine reg_quiet rfl (load_box tab_ok rfl rfl ⟨_, rfl, rfl⟩ rfl) ?_
    refine reg_quiet rfl (step_C tab_ok (fun K hk => hk)) ?_
    refine reg_quiet rfl (step_C tab_ok (fun K hk => hk)) ?_
    refine reg_on rfl rfl (by assumption) ?_
    refine reg_quiet rfl (step_C tab_ok (fun K hk => hk)) ?_
    refine reg_on rfl rfl (by assumption) ?_
    refine reg_quiet rfl (load_box tab_ok rfl rfl ⟨_, rfl, rfl⟩ rfl) ?_
    refine reg_on rfl rfl (by assumption) ?_
    refine reg_quiet rfl (step_C tab_ok (fun K hk => hk)) ?_
    refine reg_on rfl rfl (by assumption) ?_
    refine reg_quiet rfl (step_C tab_ok (fun K hk => hk)) ?_
    refine reg_quiet rfl (pick_F tab_ok rfl (by assumption) rfl) ?_
    refine reg_quiet rfl (step_C tab_ok (fun K hk => hk)) ?_
    refine reg_nil ?_
    refine seq_n ?_
    refine wc_seq ?_
    refine wc_seq ?_
    refine wc_region ?_
    refine reg_quiet rfl (step_C tab_ok (fun K hk => hk)) ?_
    refine reg_quiet rfl (load_box tab_ok rfl rfl ⟨_, rfl, rfl⟩ rfl) ?_
    refine reg_nil ?_
    refine seq_n ?_
    refine wc_block ?_
    refine wc_seq ?_
    refine wc_region ?_
    refine reg_quiet rfl (step_C tab_ok (fun K hk => hk)) ?_
    refine reg_quiet rfl (step_C tab_ok (fun K hk => hk)) ?_
    refine reg_nil ?_
    refine seq_n ?_
    refine wc_false rfl (by assumption) ?_
    refine wc_seq ?_
    refine wc_region ?_
    refine reg_quiet rfl (step_C tab_ok (fun K hk => hk)) ?_
    refine reg_quiet rfl (step_C tab_ok (fun K hk => hk)) ?_
    refine reg_nil ?_
    refine seq_n ?_
    refine wc_true rfl (by assumption) ?_
    refine wc_seq ?_
    refine wc_region ?_
    refine reg_quiet rfl (step_C tab_ok (fun K hk => hk)) ?_
    refine reg_quiet rfl (step_C tab_ok (fun K hk => hk)) ?_
    refine reg_skip rfl rfl (by assumption) rfl rfl ?_
    refine reg_skip rfl rfl (by assumption) rfl rfl ?_
    refine reg_skip rfl rfl (by assumption) rfl rfl ?_
    refine reg_skip rfl rfl (by assumption) rfl rfl ?_
    refine reg_quiet rfl (pick_T tab_ok rfl (by assumption) rfl) ?_
    refine reg_quiet rfl (step_C tab_ok (fun K hk => hk)) ?_
    refine reg_nil ?_
    refine seq_n ?_
    refine wc_ret ?_
    refine blk_r ?_
    refine seq_r ?_
    simp only [h1, h2, h3]
    exact ⟨trivial, [], .of rfl rfl rfl rfl rfl ⟨⟨_, rfl, AVLe.of_eq rfl⟩, rfl, trivial⟩ trivial⟩
  · refine wc_seq ?_
    refine wc_region ?_
    refine reg_new (step_C tab_ok (fun K hk => hk)) rfl ?_
    refine reg_quiet rfl (step_C tab_ok (fun K hk => hk)) ?_
    refine reg_nil ?_
    refine seq_n ?_
    refine wc_seq ?_
    refine wc_region ?_
    refine reg_quiet rfl (step_C tab_ok (fun K hk => hk)) ?_
    refine reg_quiet rfl (load_box tab_ok rfl rfl ⟨_, rfl, rfl⟩ rfl) ?_
    refine reg_quiet rfl (step_C tab_ok (fun K hk => hk)) ?_
    refine reg_quiet rfl (step_C tab_ok (fun K hk => hk)) ?_
    refine reg_skip rfl rfl (by assumption) rfl rfl ?_
    refine reg_skip rfl rfl (by assumption) rfl rfl ?_
    refine reg_skip rfl rfl (by assumption) rfl rfl ?_
    refine reg_skip rfl rfl (by assumption) rfl rfl ?_
    refine reg_quiet rfl (pick_T tab_ok rfl (by assumption) rfl) ?_
    refine reg_quiet rfl (step_C tab_ok (fun K hk => hk)) ?_
    refine reg_nil ?_
    refine seq_n ?_
    refine wc_seq ?_
    refine wc_seq ?_
    refine wc_region ?_
    refine reg_quiet rfl (step_C tab_ok (fun K hk => hk)) ?_
    refine reg_quiet rfl (load_box tab_ok rfl rfl ⟨_, rfl, rfl⟩ rfl) ?_
    refine reg_nil ?_
    refine seq_n ?_
    refine wc_block ?_
    refine wc_seq ?_
    refine wc_region ?_
    refine reg_quiet rfl (step_C tab_ok (fun K hk => hk)) ?_
    refine reg_quiet rfl (step_C tab_ok (fun K hk => hk)) ?_
    refine reg_nil ?_
    refine seq_n ?_
    refine wc_false rfl (by assumption) ?_
    refine wc_seq ?_
    refine wc_region ?_
    refine reg_quiet rfl (step_C tab_ok (fun K hk => hk)) ?_
    refine reg_quiet rfl (step_C tab_ok (fun K hk => hk)) ?_
    refine reg_nil ?_
    refine seq_n ?_
    refine wc_true rfl (by assumption) ?_
    refine wc_seq ?_
    refine wc_region ?_
    refine reg_quiet rfl (step_C tab_ok (fun K hk => hk)) ?_
    refine reg_quiet rfl (step_C tab_ok (fun K hk => hk)) ?_
    refine reg_skip rfl rfl rfl rfl rfl ?_
    refine reg_skip rfl rfl rfl rfl rfl ?_
    refine reg_skip rfl rfl rfl rfl rfl ?_
    refine reg_skip rfl rfl rfl rfl rfl ?_
    refine reg_quiet rfl (pick_T tab_ok rfl rfl rfl) ?_
    refine reg_quiet rfl (step_C tab_ok (fun K hk => hk)) ?_
    refine reg_nil ?_
    refine seq_n ?_
    refine wc_ret ?_
    refine blk_r ?_
    refine seq_r ?_
    simp only [h1, h2, h3]
    exact ⟨trivial, [], .of rfl rfl rfl rfl rfl ⟨⟨_, rfl, AVLe.of_eq rfl⟩, rfl, trivial⟩ trivial⟩
  · refine wc_seq ?_
    refine wc_region ?_
    refine reg_new (step_C tab_ok (fun K hk => hk)) rfl ?_
    refine reg_quiet rfl (step_C tab_ok (fun K hk => hk)) ?_
    refine reg_nil ?_
    refine seq_n ?_
    refine wc_seq ?_
    refine wc_region ?_
    refine reg_quiet rfl (step_C tab_ok (fun K hk => hk)) ?_
    refine reg_quiet rfl (load_box tab_ok rfl rfl ⟨_, rfl, rfl⟩ rfl) ?_
    refine reg_quiet rfl (step_C tab_ok (fun K hk => hk)) ?_
    refine reg_quiet rfl (step_C tab_ok (fun K hk => hk)) ?_
    refine reg_skip rfl rfl (by assumption) rfl rfl ?_
    refine reg_skip rfl rfl (by assumption) rfl rfl ?_
    refine reg_skip rfl rfl (by assumption) rfl rfl ?_
    refine reg_skip rfl rfl (by assumption) rfl rfl ?_
    refine reg_quiet rfl (pick_T tab_ok rfl (by assumption) rfl) ?_
    refine reg_quiet rfl (step_C tab_ok (fun K hk => hk)) ?_
    refine reg_nil ?_
    refine seq_n ?_
    refine wc_seq ?_
    refine wc_seq ?_
    refine wc_region ?_
    refine reg_quiet rfl (step_C tab_ok (fun K hk => hk)) ?_
    refine reg_quiet rfl (load_box tab_ok rfl rfl ⟨_, rfl, rfl⟩ rfl) ?_
    refine reg_nil ?_
    refine seq_n ?_
    refine wc_block ?_
    refine wc_seq ?_
    refine wc_region ?_
    refine reg_quiet rfl (step_C tab_ok (fun K hk => hk)) ?_
    refine reg_quiet rfl (step_C tab_ok (fun K hk => hk)) ?_
    refine reg_nil ?_
    refine seq_n ?_
    refine wc_false rfl (by assumption) ?_
    refine wc_seq ?_
    refine wc_region ?_
    refine reg_quiet rfl (step_C tab_ok (fun K hk => hk)) ?_
    refine reg_quiet rfl (step_C tab_ok (fun K hk => hk)) ?_
    refine reg_nil ?_
    refine seq_n ?_
    refine wc_true rfl (by assumption) ?_
    refine wc_seq ?_
    refine wc_region ?_
    refine reg_quiet rfl (step_C tab_ok (fun K hk => hk)) ?_
    refine reg_quiet rfl (step_C tab_ok (fun K hk => hk)) ?_
    refine reg_skip rfl rfl rfl rfl rfl ?_
    refine reg_skip rfl rfl rfl rfl rfl ?_
    refine reg_skip rfl rfl rfl rfl rfl ?_
    refine reg_skip rfl rfl rfl rfl rfl ?_
    refine reg_quiet rfl (pick_T tab_ok rfl rfl rfl) ?_
    refine reg_quiet rfl (step_C tab_ok (fun K hk => hk)) ?_
    refine reg_nil ?_
    refine seq_n ?_
    refine wc_ret ?_
    refine blk_r ?_
    refine seq_r ?_
    simp only [h1, h2, h3]
    exact ⟨trivial, [], .of rfl rfl rfl rfl rfl ⟨⟨_, rfl, AVLe.of_eq rfl⟩, rfl, trivial⟩ trivial⟩
  · refine wc_seq ?_
    refine wc_region ?_
    refine reg_new (step_C tab_ok (fun K hk => hk)) rfl ?_
    refine reg_quiet rfl (step_C tab_ok (fun K hk => hk)) ?_
    refine reg_nil ?_
    refine seq_n ?_
    refine wc_seq ?_
    refine wc_region ?_
    refine reg_quiet rfl (step_C tab_ok (fun K hk => hk)) ?_
    refine reg_quiet rfl (load_box tab_ok rfl rfl ⟨_, rfl, rfl⟩ rfl) ?_
    refine reg_quiet rfl (step_C tab_ok (fun K hk => hk)) ?_
    refine reg_quiet rfl (step_C tab_ok (fun K hk => hk)) ?_
    refine reg_skip rfl rfl (by assumption) rfl rfl ?_
    refine reg_skip rfl rfl (by assumption) rfl rfl ?_
    refine reg_skip rfl rfl (by assumption) rfl rfl ?_
    refine reg_skip rfl rfl (by assumption) rfl rfl ?_
    refine reg_quiet rfl (pick_T tab_ok rfl (by assumption) rfl) ?_
    refine reg_quiet rfl (step_C tab_ok (fun K hk => hk)) ?_
    refine reg_nil ?_
    refine seq_n ?_
    refine wc_seq ?_
    refine wc_seq ?_
    refine wc_region ?_
    refine reg_quiet rfl (step_C tab_ok (fun K hk => hk)) ?_
    refine reg_quiet rfl (load_box tab_ok rfl rfl ⟨_, rfl, rfl⟩ rfl) ?_
    refine reg_nil ?_
    refine seq_n ?_
    refine wc_block ?_
    refine wc_seq ?_
    refine wc_region ?_
    refine reg_quiet rfl (step_C tab_ok (fun K hk => hk)) ?_
    refine reg_quiet rfl (step_C tab_ok (fun K hk => hk)) ?_
    refine reg_nil ?_
    refine seq_n ?_
    refine wc_false rfl (by assumption) ?_
    refine wc_seq ?_
    refine wc_region ?_
    refine reg_quiet rfl (step_C tab_ok (fun K hk => hk)) ?_
    refine reg_quiet rfl (step_C tab_ok (fun K hk => hk)) ?_
    refine reg_nil ?_
    refine seq_n ?_
    refine wc_true rfl (by assumption) ?_
    refine wc_seq ?_
    refine wc_region ?_
    refine reg_quiet rfl (step_C tab_ok (fun K hk => hk)) ?_
    refine reg_quiet rfl (step_C tab_ok (fun K hk => hk)) ?_
    refine reg_skip rfl rfl rfl rfl rfl ?_
    refine reg_skip rfl rfl rfl rfl rfl ?_
    refine reg_skip rfl rfl rfl rfl rfl ?_
    refine reg_skip rfl rfl rfl rfl rfl ?_
    refine reg_quiet rfl (pick_T tab_ok rfl rfl rfl) ?_
    refine reg_quiet rfl (step_C tab_ok (fun K hk => hk)) ?_
    refine reg_nil ?_
    refine seq_n ?_
    refine wc_ret ?_
    refine blk_r ?_
    refine seq_r ?_
    simp only [h1, h2, h3]
    exact ⟨trivial, [], .of rfl rfl rfl rfl rfl ⟨⟨_, rfl, AVLe.of_eq rfl⟩, rfl, trivial⟩ trivial⟩
  · refine wc_seq ?_
    refine wc_region ?_
    refine reg_new (step_C tab_ok (fun K hk => hk)) rfl ?_
    refine reg_quiet rfl (step_C tab_ok (fun K hk => hk)) ?_
    refine reg_nil ?_
    refine seq_n ?_
    refine wc_seq ?_
    refine wc_region ?_
    refine reg_quiet rfl (step_C tab_ok (fun K hk => hk)) ?_
    refine reg_quiet rfl (load_box tab_ok rfl rfl ⟨_, rfl, rfl⟩ rfl) ?_
    refine reg_quiet rfl (step_C tab_ok (fun K hk => hk)) ?_
    refine reg_quiet rfl (step_C tab_ok (fun K hk => hk)) ?_
    refine reg_skip rfl rfl (by assumption) rfl rfl ?_
    refine reg_skip rfl rfl (by assumption) rfl rfl ?_
    refine reg_skip rfl rfl (by assumption) rfl rfl ?_
    refine reg_skip rfl rfl (by assumption) rfl rfl ?_
    refine reg_quiet rfl (pick_T tab_ok rfl (by assumption) rfl) ?_
    refine reg_quiet rfl (step_C tab_ok (fun K hk => hk)) ?_
    refine reg_nil ?_
    refine seq_n ?_
    refine wc_seq ?_
    refine wc_seq ?_
    refine wc_region ?_
    refine reg_quiet rfl (step_C tab_ok (fun K hk => hk)) ?_
    refine reg_quiet rfl (load_box tab_ok rfl rfl ⟨_, rfl, rfl⟩ rfl) ?_
    refine reg_nil ?_
    refine seq_n ?_
    refine wc_block ?_
    refine wc_seq ?_
    refine wc_region ?_
    refine reg_quiet rfl (step_C tab_ok (fun K hk => hk)) ?_
    refine reg_quiet rfl (step_C tab_ok (fun K hk => hk)) ?_
    refine reg_nil ?_
    refine seq_n ?_
    refine wc_false rfl (by assumption) ?_
    refine wc_seq ?_
    refine wc_region ?_
    refine reg_quiet rfl (step_C tab_ok (fun K hk => hk)) ?_
    refine reg_quiet rfl (step_C tab_ok (fun K hk => hk)) ?_
    refine reg_nil ?_
    refine seq_n ?_
    refine wc_true rfl (by assumption) ?_
    refine wc_seq ?_
    refine wc_region ?_
    refine reg_quiet rfl (step_C tab_ok (fun K hk => hk)) ?_
    refine reg_quiet rfl (step_C tab_ok (fun K hk => hk)) ?_
    refine reg_skip rfl rfl rfl rfl rfl ?_
    refine reg_skip rfl rfl rfl rfl rfl ?_
    refine reg_skip rfl rfl rfl rfl rfl ?_
    refine reg_skip rfl rfl rfl rfl rfl ?_
    refine reg_quiet rfl (pick_T tab_ok rfl rfl rfl) ?_
    refine reg_quiet rfl (step_C tab_ok (fun K hk => hk)) ?_
    refine reg_nil ?_
    refine seq_n ?_
    refine wc_ret ?_
    refine blk_r ?_
    refine seq_r ?_
    simp only [h1, h2, h3]
    exact ⟨trivial, [], .of rfl rfl rfl rfl rfl ⟨⟨_, rfl, AVLe.of_eq rfl⟩, rfl, trivial⟩ trivial⟩
theorem bad_other (o : POp) (b : Int) (hk1 : ¬ o.kind = 1) (hk2 : ¬ o.kind = 2) (c1 c2 : Bool) (h1 : decide (o.index < 0) = c1) (h2 : decide (b ≤ o.index) = c2) : FnIs Tryz.prog 40 [.d (encPOp o), .int .i64 b] [] (.bool (!decide (o.kind = 3))) [] := by
  have hk1 : decide (o.kind = 1) = false := decide_eq_false (by omega)
  have hk2 : decide (o.kind = 2) = false := decide_eq_false (by omega)
  refine fnIs_of tab_ok Tryz.func40 rfl rfl rfl ?_
  cases c1 <;> cases c2
  · refine wc_seq ?_
    refine wc_region ?_
    refine reg_new (step_C tab_ok (fun K hk => hk)) rfl ?_
    refine reg_quiet rfl (step_C tab_ok (fun K hk => hk)) ?_
    refine reg_nil ?_
    refine seq_n ?_
    refine wc_seq ?_
    refine wc_region ?_
    refine reg_quiet rfl (step_C tab_ok (fun K hk => hk)) ?_
    refine reg_quiet rfl (load_box tab_ok rfl rfl ⟨_, rfl, rfl⟩ rfl) ?_
    refine reg_quiet rfl (step_C tab_ok (fun K hk => hk)) ?_
    refine reg_quiet rfl (step_C tab_ok (fun K hk => hk)) ?_
    refine reg_on rfl rfl (by assumption) ?_
    refine reg_quiet rfl (step_C tab_ok (fun K hk => hk)) ?_
    refine reg_on rfl rfl (by assumption) ?_
    refine reg_quiet rfl (load_box tab_ok rfl rfl ⟨_, rfl, rfl⟩ rfl) ?_
    refine reg_on rfl rfl (by assumption) ?_
    refine reg_quiet rfl (step_C tab_ok (fun K hk => hk)) ?_
    refine reg_on rfl rfl (by assumption) ?_
    refine reg_quiet rfl (step_C tab_ok (fun K hk => hk)) ?_
    refine reg_quiet rfl (pick_F tab_ok rfl (by assumption) rfl) ?_
    refine reg_quiet rfl (step_C tab_ok (fun K hk => hk)) ?_
    refine reg_nil ?_
    refine seq_n ?_
    refine wc_seq ?_
    refine wc_seq ?_
    refine wc_region ?_
    refine reg_quiet rfl (step_C tab_ok (fun K hk => hk)) ?_
    refine reg_quiet rfl (load_box tab_ok rfl rfl ⟨_, rfl, rfl⟩ rfl) ?_
    refine reg_nil ?_
    refine seq_n ?_
    refine wc_block ?_
    refine wc_seq ?_
    refine wc_region ?_
    refine reg_quiet rfl (step_C tab_ok (fun K hk => hk)) ?_
    refine reg_quiet rfl (step_C tab_ok (fun K hk => hk)) ?_
    refine reg_nil ?_
    refine seq_n ?_
    refine wc_false rfl (by assumption) ?_
    refine wc_seq ?_
    refine wc_region ?_
    refine reg_quiet rfl (step_C tab_ok (fun K hk => hk)) ?_
    refine reg_quiet rfl (step_C tab_ok (fun K hk => hk)) ?_
    refine reg_nil ?_
    refine seq_n ?_
    refine wc_false rfl (by assumption) ?_
    refine wc_skip ?_
    refine blk_n ?_
    refine seq_n ?_
    refine wc_seq ?_
    refine wc_region ?_
    refine reg_quiet rfl (step_C tab_ok (fun K hk => hk)) ?_
    refine reg_quiet rfl (load_box tab_ok rfl rfl ⟨_, rfl, rfl⟩ rfl) ?_
    refine reg_quiet rfl (step_C tab_ok (fun K hk => hk)) ?_
    refine reg_quiet rfl (step_C tab_ok (fun K hk => hk)) ?_
    refine reg_nil ?_
    refine seq_n ?_
    refine wc_ret ?_
    exact ⟨trivial, [], .of rfl rfl rfl rfl rfl ⟨⟨_, rfl, AVLe.of_eq rfl⟩, rfl, trivial⟩ trivial⟩
  · refine wc_seq ?_
    refine wc_region ?_
    refine reg_new (step_C tab_ok (fun K hk => hk)) rfl ?_
    refine reg_quiet rfl (step_C tab_ok (fun K hk => hk)) ?_
    refine reg_nil ?_
    refine seq_n ?_
    refine wc_seq ?_
    refine wc_region ?_
    refine reg_quiet rfl (step_C tab_ok (fun K hk => hk)) ?_
    refine reg_quiet rfl (load_box tab_ok rfl rfl ⟨_, rfl, rfl⟩ rfl) ?_
    refine reg_quiet rfl (step_C tab_ok (fun K hk => hk)) ?_
    refine reg_quiet rfl (step_C tab_ok (fun K hk => hk)) ?_
    refine reg_on rfl rfl (by assumption) ?_
    refine reg_quiet rfl (step_C tab_ok (fun K hk => hk)) ?_
    refine reg_on rfl rfl (by assumption) ?_
    refine reg_quiet rfl (load_box tab_ok rfl rfl ⟨_, rfl, rfl⟩ rfl) ?_
    refine reg_on rfl rfl (by assumption) ?_
    refine reg_quiet rfl (step_C tab_ok (fun K hk => hk)) ?_
    refine reg_on rfl rfl (by assumption) ?_
    refine reg_quiet rfl (step_C tab_ok (fun K hk => hk)) ?_
    refine reg_quiet rfl (pick_F tab_ok rfl (by assumption) rfl) ?_
    refine reg_quiet rfl (step_C tab_ok (fun K hk => hk)) ?_
    refine reg_nil ?_
    refine seq_n ?_
    refine wc_seq ?_
    refine wc_seq ?_
    refine wc_region ?_
    refine reg_quiet rfl (step_C tab_ok (fun K hk => hk)) ?_
    refine reg_quiet rfl (load_box tab_ok rfl rfl ⟨_, rfl, rfl⟩ rfl) ?_
    refine reg_nil ?_
    refine seq_n ?_
    refine wc_block ?_
    refine wc_seq ?_
    refine wc_region ?_
    refine reg_quiet rfl (step_C tab_ok (fun K hk => hk)) ?_
    refine reg_quiet rfl (step_C tab_ok (fun K hk => hk)) ?_
    refine reg_nil ?_
    refine seq_n ?_
    refine wc_false rfl (by assumption) ?_
    refine wc_seq ?_
    refine wc_region ?_
    refine reg_quiet rfl (step_C tab_ok (fun K hk => hk)) ?_
    refine reg_quiet rfl (step_C tab_ok (fun K hk => hk)) ?_
    refine reg_nil ?_
    refine seq_n ?_
    refine wc_false rfl (by assumption) ?_
    refine wc_skip ?_
    refine blk_n ?_
    refine seq_n ?_
    refine wc_seq ?_
    refine wc_region ?_
    refine reg_quiet rfl (step_C tab_ok (fun K hk => hk)) ?_
    refine reg_quiet rfl (load_box tab_ok rfl rfl ⟨_, rfl, rfl⟩ rfl) ?_
    refine reg_quiet rfl (step_C tab_ok (fun K hk => hk)) ?_
    refine reg_quiet rfl (step_C tab_ok (fun K hk => hk)) ?_
    refine reg_nil ?_
    refine seq_n ?_
    refine wc_ret ?_
    exact ⟨trivial, [], .of rfl rfl rfl rfl rfl ⟨⟨_, rfl, AVLe.of_eq rfl⟩, rfl, trivial⟩ trivial⟩
  · refine wc_seq ?_
    refine wc_region ?_
    refine reg_new (step_C tab_ok (fun K hk => hk)) rfl ?_
    refine reg_quiet rfl (step_C tab_ok (fun K hk => hk)) ?_
    refine reg_nil ?_
    refine seq_n ?_
    refine wc_seq ?_
    refine wc_region ?_
    refine reg_quiet rfl (step_C tab_ok (fun K hk => hk)) ?_
    refine reg_quiet rfl (load_box tab_ok rfl rfl ⟨_, rfl, rfl⟩ rfl) ?_
    refine reg_quiet rfl (step_C tab_ok (fun K hk => hk)) ?_
    refine reg_quiet rfl (step_C tab_ok (fun K hk => hk)) ?_
    refine reg_skip rfl rfl (by assumption) rfl rfl ?_
    refine reg_skip rfl rfl (by assumption) rfl rfl ?_
    refine reg_skip rfl rfl (by assumption) rfl rfl ?_
    refine reg_skip rfl rfl (by assumption) rfl rfl ?_
    refine reg_quiet rfl (pick_T tab_ok rfl (by assumption) rfl) ?_
    refine reg_quiet rfl (step_C tab_ok (fun K hk => hk)) ?_
    refine reg_nil ?_
    refine seq_n ?_
    refine wc_seq ?_
    refine wc_seq ?_
    refine wc_region ?_
    refine reg_quiet rfl (step_C tab_ok (fun K hk => hk)) ?_
    refine reg_quiet rfl (load_box tab_ok rfl rfl ⟨_, rfl, rfl⟩ rfl) ?_
    refine reg_nil ?_
    refine seq_n ?_
    refine wc_block ?_
    refine wc_seq ?_
    refine wc_region ?_
    refine reg_quiet rfl (step_C tab_ok (fun K hk => hk)) ?_
    refine reg_quiet rfl (step_C tab_ok (fun K hk => hk)) ?_
    refine reg_nil ?_
    refine seq_n ?_
    refine wc_false rfl (by assumption) ?_
    refine wc_seq ?_
    refine wc_region ?_
    refine reg_quiet rfl (step_C tab_ok (fun K hk => hk)) ?_
    refine reg_quiet rfl (step_C tab_ok (fun K hk => hk)) ?_
    refine reg_nil ?_
    refine seq_n ?_
    refine wc_false rfl (by assumption) ?_
    refine wc_skip ?_
    refine blk_n ?_
    refine seq_n ?_
    refine wc_seq ?_
    refine wc_region ?_
    refine reg_quiet rfl (step_C tab_ok (fun K hk => hk)) ?_
    refine reg_quiet rfl (load_box tab_ok rfl rfl ⟨_, rfl, rfl⟩ rfl) ?_
    refine reg_quiet rfl (step_C tab_ok (fun K hk => hk)) ?_
    refine reg_quiet rfl (step_C tab_ok (fun K hk => hk)) ?_
    refine reg_nil ?_
    refine seq_n ?_
    refine wc_ret ?_
    exact ⟨trivial, [], .of rfl rfl rfl rfl rfl ⟨⟨_, rfl, AVLe.of_eq rfl⟩, rfl, trivial⟩ trivial⟩
  · refine wc_seq ?_
    refine wc_region ?_
    refine reg_new (step_C tab_ok (fun K hk => hk)) rfl ?_
    refine reg_quiet rfl (step_C tab_ok (fun K hk => hk)) ?_
    refine reg_nil ?_
    refine seq_n ?_
    refine wc_seq ?_
    refine wc_region ?_
    refine reg_quiet rfl (step_C tab_ok (fun K hk => hk)) ?_
    refine reg_quiet rfl (load_box tab_ok rfl rfl ⟨_, rfl, rfl⟩ rfl) ?_
    refine reg_quiet rfl (step_C tab_ok (fun K hk => hk)) ?_
    refine reg_quiet rfl (step_C tab_ok (fun K hk => hk)) ?_
    refine reg_skip rfl rfl (by assumption) rfl rfl ?_
    refine reg_skip rfl rfl (by assumption) rfl rfl ?_
    refine reg_skip rfl rfl (by assumption) rfl rfl ?_
    refine reg_skip rfl rfl (by assumption) rfl rfl ?_
    refine reg_quiet rfl (pick_T tab_ok rfl (by assumption) rfl) ?_
    refine reg_quiet rfl (step_C tab_ok (fun K hk => hk)) ?_
    refine reg_nil ?_
    refine seq_n ?_
    refine wc_seq ?_
    refine wc_seq ?_
    refine wc_region ?_
    refine reg_quiet rfl (step_C tab_ok (fun K hk => hk)) ?_
    refine reg_quiet rfl (load_box tab_ok rfl rfl ⟨_, rfl, rfl⟩ rfl) ?_
    refine reg_nil ?_
    refine seq_n ?_
    refine wc_block ?_
    refine wc_seq ?_
    refine wc_region ?_
    refine reg_quiet rfl (step_C tab_ok (fun K hk => hk)) ?_
    refine reg_quiet rfl (step_C tab_ok (fun K hk => hk)) ?_
    refine reg_nil ?_
    refine seq_n ?_
    refine wc_false rfl (by assumption) ?_
    refine wc_seq ?_
    refine wc_region ?_
    refine reg_quiet rfl (step_C tab_ok (fun K hk => hk)) ?_
    refine reg_quiet rfl (step_C tab_ok (fun K hk => hk)) ?_
    refine reg_nil ?_
    refine seq_n ?_
    refine wc_false rfl (by assumption) ?_
    refine wc_skip ?_
    refine blk_n ?_
    refine seq_n ?_
    refine wc_seq ?_
    refine wc_region ?_
    refine reg_quiet rfl (step_C tab_ok (fun K hk => hk)) ?_
    refine reg_quiet rfl (load_box tab_ok rfl rfl ⟨_, rfl, rfl⟩ rfl) ?_
    refine reg_quiet rfl (step_C tab_ok (fun K hk => hk)) ?_
    refine reg_quiet rfl (step_C tab_ok (fun K hk => hk)) ?_
    refine reg_nil ?_
    refine seq_n ?_
    refine wc_ret ?_
    exact ⟨trivial, [], .of rfl rfl rfl rfl rfl ⟨⟨_, rfl, AVLe.of_eq rfl⟩, rfl, trivial⟩ trivial⟩
theorem bad_is (o : POp) (b : Int) : FnIs Tryz.prog 40 [.d (encPOp o), .int .i64 b] [] (.bool (badO o b)) [] := by
  by_cases k1 : o.kind = 1
  · have := bad_read o b k1 _ _ _ rfl rfl rfl
    rwa [show badO o b = (decide (o.index < 0) || decide (b ≤ o.index)) by rw [badO, if_pos k1, outO]]
  · by_cases k2 : o.kind = 2
    · have := bad_write o b k2 _ _ _ rfl rfl rfl
      rwa [show badO o b = (decide (o.index < 0) || decide (b ≤ o.index) || !decide (((byI o.data).length : Int) = 32)) by rw [badO, if_neg k1, if_pos k2, outO, len32]]
    · have := bad_other o b k1 k2 _ _ rfl rfl
      rwa [show badO o b = !decide (o.kind = 3) by rw [badO, if_neg k1, if_neg k2]]
end Go.Proofs.YtmojbghcngdkpaaGreatDoor

namespace Go.Proofs.YtmojbghcngdkpaaGreatDoor
open Go.Eng Go.Plain
set_option maxHeartbeats 4000000
set_option maxRecDepth 20000
attribute [local irreducible] WC RegS RegD SeqQ BlkQ ScoQ RegK CutK Sat SatN FnIs LoopQ StepIs OpIs
/-- The operations ahead of operation j of program i. -/
def preO (l : List (List POp)) (i : Nat) (p : List POp) (j : Nat) : List POp := (l.take i).flatten ++ p.take j
theorem preO_go {l : List (List POp)} {i j : Nat} {p : List POp} {o : POp} (ho : p[j]? = some o) : preO l i p (j + 1) = preO l i p j ++ [o] := by
  rw [preO, preO, List.take_add_one, ho]
  simp
theorem preO_end {l : List (List POp)} {i : Nat} {p : List POp} (hp : l[i]? = some p) : preO l i p p.length = (l.take (i + 1)).flatten := by
  rw [preO, List.take_length, List.take_add_one, hp]
  simp
theorem preO_zero (l : List (List POp)) (i : Nat) (p : List POp) : preO l i p 0 = (l.take i).flatten := by simp [preO]
theorem take_flat_le (l : List (List POp)) (i : Nat) : (l.take i).flatten.length ≤ l.flatten.length := by
  have := congrArg List.length (congrArg List.flatten (List.take_append_drop i l))
  rw [List.flatten_append, List.length_append] at this
  omega
theorem preO_le {l : List (List POp)} {i j : Nat} {p : List POp} (hp : l[i]? = some p) : (preO l i p j).length ≤ l.flatten.length := by
  have h1 := take_flat_le l (i + 1)
  rw [← preO_end hp] at h1
  have h2 : (p.take j).length ≤ p.length := by rw [List.length_take]; omega
  simp only [preO, List.length_append, List.take_length] at h1 ⊢
  omega
def cK (k : Int) (l : List POp) : Nat := l.countP fun o => decide (o.kind = k)
def cO (l : List POp) : Nat := l.countP fun o => !decide (o.kind = 1) && !decide (o.kind = 2) && !decide (o.kind = 3)
theorem cK_le (k : Int) (l : List POp) : cK k l ≤ l.length := List.countP_le_length
theorem cO_le (l : List POp) : cO l ≤ l.length := List.countP_le_length
theorem cK_yes {k : Int} {l : List POp} {o : POp} (h : o.kind = k) : cK k (l ++ [o]) = cK k l + 1 := by simp [cK, h]
theorem cK_no {k : Int} {l : List POp} {o : POp} (h : ¬ o.kind = k) : cK k (l ++ [o]) = cK k l := by simp [cK, h]
theorem cO_yes {l : List POp} {o : POp} (h1 : ¬ o.kind = 1) (h2 : ¬ o.kind = 2) (h3 : ¬ o.kind = 3) : cO (l ++ [o]) = cO l + 1 := by simp [cO, h1, h2, h3]
theorem cO_no {l : List POp} {o : POp} (h : o.kind = 1 ∨ o.kind = 2 ∨ o.kind = 3) : cO (l ++ [o]) = cO l := by
  simp only [cO, List.countP_append, List.countP_cons, List.countP_nil]
  rcases h with h | h | h <;> simp [h]
theorem count_is (l : List (List POp)) (hL : l.length ≤ 1000000) (hF : l.flatten.length ≤ 1000000) : FnIs Tryz.prog 42 [.d (encPL l)] [] (.tup (.acons (.int .i64 (cK 1 l.flatten)) (.acons (.int .i64 (cK 2 l.flatten)) (.acons (.int .i64 (cK 3 l.flatten)) (.acons (.int .i64 (cO l.flatten)) .anil))))) [] := by
  refine fnIs_of tab_ok Tryz.func42 rfl rfl rfl ?_
  refine wc_seq ?_
  refine wc_region ?_
  refine reg_quiet rfl (step_C tab_ok (fun K hk => hk)) ?_
  refine reg_quiet rfl (step_C tab_ok (fun K hk => hk)) ?_
  refine reg_quiet rfl (step_C tab_ok (fun K hk => hk)) ?_
  refine reg_quiet rfl (step_C tab_ok (fun K hk => hk)) ?_
  refine reg_nil ?_
  refine seq_n ?_
  refine wc_seq ?_
  refine wc_seq ?_
  refine wc_region ?_
  refine reg_quiet rfl (step_C tab_ok (fun K hk => hk)) ?_
  refine reg_quiet rfl (len_arr tab_ok rfl rfl) ?_
  refine reg_quiet rfl (step_C tab_ok (fun K hk => hk)) ?_
  refine reg_nil ?_
  refine seq_n ?_
  refine wc_block ?_
  refine wc_inv (fun i : Nat => ⟨[(12, .int .i64 i), (11, .int .i64 l.length), (10, .d (encPL l)), (2, .int .i64 (cK 1 (l.take i).flatten)), (3, .int .i64 (cK 2 (l.take i).flatten)), (4, .int .i64 (cK 3 (l.take i).flatten)), (5, .int .i64 (cO (l.take i).flatten))], [], 72, Tryz.f42.ntmps, 64⟩) (fun i => i ≤ l.length) (fun i => l.length - i) 0 [] (Nat.zero_le _)
    (.of rfl rfl rfl rfl rfl ⟨⟨_, rfl, .refl _⟩, rfl, ⟨_, rfl, .refl _⟩, rfl, ⟨_, rfl, .refl _⟩, rfl, ⟨_, rfl, .refl _⟩, rfl, ⟨_, rfl, .refl _⟩, rfl, ⟨_, rfl, .refl _⟩, rfl, ⟨_, rfl, .refl _⟩, rfl, trivial⟩ trivial) ?_
  intro i hi
  refine wc_of ?_
  refine wc_seq ?_
  refine wc_region ?_
  refine reg_quiet rfl (step_C tab_ok (fun K hk => hk)) ?_
  refine reg_nil ?_
  refine seq_n ?_
  refine wc_seq ?_
  refine wc_cond rfl (fun h3 => ?_) (fun h3 => ?_)
  · have hlt : i < l.length := by have := of_decide_eq_true h3; omega
    obtain ⟨p, hp⟩ : ∃ p, l[i]? = some p := ⟨_, List.getElem?_eq_getElem hlt⟩
    have hp' : l[((i : Int)).toNat]? = some p := by rw [Int.toNat_natCast]; exact hp
    have hpF : p.length ≤ 1000000 := by
      have h1 := preO_le (j := p.length) hp
      rw [preO, List.take_length, List.length_append] at h1
      omega
    rw [← preO_zero l i p]
    refine wc_skip ?_
    refine seq_n ?_
    refine wc_seq ?_
    refine wc_block ?_
    refine wc_seq ?_
    refine wc_region ?_
    refine reg_quiet rfl (index_arr tab_ok rfl rfl rfl rfl rfl (by omega) (by assumption)) ?_
    refine reg_quiet rfl (load_i tab_ok rfl rfl) ?_
    refine reg_quiet rfl (step_C tab_ok (fun K hk => hk)) ?_
    refine reg_nil ?_
    refine seq_n ?_
    refine wc_seq ?_
    refine wc_region ?_
    refine reg_quiet rfl (step_C tab_ok (fun K hk => hk)) ?_
    refine reg_quiet rfl (len_arr tab_ok rfl rfl) ?_
    refine reg_quiet rfl (step_C tab_ok (fun K hk => hk)) ?_
    refine reg_nil ?_
    refine seq_n ?_
    refine wc_block ?_
    refine wc_inv (fun j : Nat => ⟨[(18, .int .i64 j), (17, .int .i64 p.length), (16, .d (encP p)), (12, .int .i64 i), (11, .int .i64 l.length), (10, .d (encPL l)), (2, .int .i64 (cK 1 (preO l i p j))), (3, .int .i64 (cK 2 (preO l i p j))), (4, .int .i64 (cK 3 (preO l i p j))), (5, .int .i64 (cO (preO l i p j)))], [], 72, Tryz.f42.ntmps, 64⟩) (fun j => j ≤ p.length) (fun j => p.length - j) 0 [] (Nat.zero_le _)
      (.of rfl rfl rfl rfl rfl ⟨⟨_, rfl, .refl _⟩, rfl, ⟨_, rfl, .refl _⟩, rfl, ⟨_, rfl, .refl _⟩, rfl, ⟨_, rfl, .refl _⟩, rfl, ⟨_, rfl, .refl _⟩, rfl, ⟨_, rfl, .refl _⟩, rfl, ⟨_, rfl, .refl _⟩, rfl, ⟨_, rfl, .refl _⟩, rfl, ⟨_, rfl, .refl _⟩, rfl, ⟨_, rfl, .refl _⟩, rfl, trivial⟩ trivial) ?_
    intro j hj
    refine wc_of ?_
    refine wc_seq ?_
    refine wc_region ?_
    refine reg_quiet rfl (step_C tab_ok (fun K hk => hk)) ?_
    refine reg_nil ?_
    refine seq_n ?_
    refine wc_seq ?_
    refine wc_cond rfl (fun h4 => ?_) (fun h4 => ?_)
    · have hjl : j < p.length := by have := of_decide_eq_true h4; omega
      obtain ⟨o, ho⟩ : ∃ o, p[j]? = some o := ⟨_, List.getElem?_eq_getElem hjl⟩
      have ho' : p[((j : Int)).toNat]? = some o := by rw [Int.toNat_natCast]; exact ho
      have hgo := preO_go (l := l) (i := i) ho
      have hle := preO_le (j := j) hp
      have q1 := cK_le 1 (preO l i p j)
      have q2 := cK_le 2 (preO l i p j)
      have q3 := cK_le 3 (preO l i p j)
      have q4 := cO_le (preO l i p j)
      by_cases k1 : o.kind = 1
      · have d1 := decide_eq_true k1
        have e1 := cK_yes (l := preO l i p j) k1
        have e2 := cK_no (k := 2) (l := preO l i p j) (o := o) (by omega)
        have e3 := cK_no (k := 3) (l := preO l i p j) (o := o) (by omega)
        have e4 := cO_no (l := preO l i p j) (o := o) (.inl k1)
        rw [← hgo] at e1 e2 e3 e4
        refine wc_skip ?_
        refine seq_n ?_
        refine wc_seq ?_
        refine wc_block ?_
        refine wc_seq ?_
        refine wc_region ?_
        refine reg_quiet rfl (index_arr tab_ok rfl rfl rfl rfl rfl (by omega) (by assumption)) ?_
        refine reg_quiet rfl (load_i tab_ok rfl rfl) ?_
        refine reg_new (step_C tab_ok (fun K hk => hk)) rfl ?_
        refine reg_store (store_row tab_ok rfl rfl rfl ⟨_, ⟨rfl, rfl, rfl⟩, rfl⟩ rfl) ?_
        refine reg_nil ?_
        refine seq_n ?_
        refine wc_seq ?_
        refine wc_region ?_
        refine reg_quiet rfl (step_C tab_ok (fun K hk => hk)) ?_
        refine reg_quiet rfl (load_box tab_ok rfl rfl ⟨_, rfl, rfl⟩ rfl) ?_
        refine reg_nil ?_
        refine seq_n ?_
        refine wc_block ?_
        refine wc_seq ?_
        refine wc_region ?_
        refine reg_quiet rfl (step_C tab_ok (fun K hk => hk)) ?_
        refine reg_quiet rfl (step_C tab_ok (fun K hk => hk)) ?_
        refine reg_nil ?_
        refine seq_n ?_
        refine wc_true rfl (by assumption) ?_
        refine wc_region ?_
        refine reg_quiet rfl (step_C tab_ok (fun K hk => hk)) ?_
        refine reg_quiet rfl (add_int tab_ok rfl rfl (wrap_i64 (by omega) (by omega))) ?_
        refine reg_quiet rfl (step_C tab_ok (fun K hk => hk)) ?_
        refine reg_nil ?_
        refine blk_n ?_
        refine blk_n ?_
        refine seq_n ?_
        refine wc_region ?_
        refine reg_quiet rfl (add_int tab_ok rfl rfl (wrap_i64 (by omega) (by omega))) ?_
        refine reg_quiet rfl (step_C tab_ok (fun K hk => hk)) ?_
        refine reg_nil ?_
        exact loop_n (j + 1) [] hjl (by omega) (.of rfl rfl rfl rfl rfl ⟨⟨_, rfl, .refl _⟩, rfl, ⟨_, rfl, .refl _⟩, rfl, ⟨_, rfl, .refl _⟩, rfl, ⟨_, rfl, .refl _⟩, rfl, ⟨_, rfl, .refl _⟩, rfl, ⟨_, rfl, .refl _⟩, rfl, ⟨_, rfl, AVLe.of_eq (by rw [e1]; rfl)⟩, rfl, ⟨_, rfl, AVLe.of_eq (by rw [e2]; rfl)⟩, rfl, ⟨_, rfl, AVLe.of_eq (by rw [e3]; rfl)⟩, rfl, ⟨_, rfl, AVLe.of_eq (by rw [e4]; rfl)⟩, rfl, trivial⟩ trivial)
      by_cases k2 : o.kind = 2
      · have d1 := decide_eq_false k1
        have d2 := decide_eq_true k2
        have e1 := cK_no (k := 1) (l := preO l i p j) (o := o) (by omega)
        have e2 := cK_yes (l := preO l i p j) k2
        have e3 := cK_no (k := 3) (l := preO l i p j) (o := o) (by omega)
        have e4 := cO_no (l := preO l i p j) (o := o) (.inr (.inl k2))
        rw [← hgo] at e1 e2 e3 e4
        refine wc_skip ?_
        refine seq_n ?_
        refine wc_seq ?_
        refine wc_block ?_
        refine wc_seq ?_
        refine wc_region ?_
        refine reg_quiet rfl (index_arr tab_ok rfl rfl rfl rfl rfl (by omega) (by assumption)) ?_
        refine reg_quiet rfl (load_i tab_ok rfl rfl) ?_
        refine reg_new (step_C tab_ok (fun K hk => hk)) rfl ?_
        refine reg_store (store_row tab_ok rfl rfl rfl ⟨_, ⟨rfl, rfl, rfl⟩, rfl⟩ rfl) ?_
        refine reg_nil ?_
        refine seq_n ?_
        refine wc_seq ?_
        refine wc_region ?_
        refine reg_quiet rfl (step_C tab_ok (fun K hk => hk)) ?_
        refine reg_quiet rfl (load_box tab_ok rfl rfl ⟨_, rfl, rfl⟩ rfl) ?_
        refine reg_nil ?_
        refine seq_n ?_
        refine wc_block ?_
        refine wc_seq ?_
        refine wc_region ?_
        refine reg_quiet rfl (step_C tab_ok (fun K hk => hk)) ?_
        refine reg_quiet rfl (step_C tab_ok (fun K hk => hk)) ?_
        refine reg_nil ?_
        refine seq_n ?_
        refine wc_false rfl (by assumption) ?_
        refine wc_seq ?_
        refine wc_region ?_
        refine reg_quiet rfl (step_C tab_ok (fun K hk => hk)) ?_
        refine reg_quiet rfl (step_C tab_ok (fun K hk => hk)) ?_
        refine reg_nil ?_
        refine seq_n ?_
        refine wc_true rfl (by assumption) ?_
        refine wc_region ?_
        refine reg_quiet rfl (step_C tab_ok (fun K hk => hk)) ?_
        refine reg_quiet rfl (add_int tab_ok rfl rfl (wrap_i64 (by omega) (by omega))) ?_
        refine reg_quiet rfl (step_C tab_ok (fun K hk => hk)) ?_
        refine reg_nil ?_
        refine blk_n ?_
        refine blk_n ?_
        refine seq_n ?_
        refine wc_region ?_
        refine reg_quiet rfl (add_int tab_ok rfl rfl (wrap_i64 (by omega) (by omega))) ?_
        refine reg_quiet rfl (step_C tab_ok (fun K hk => hk)) ?_
        refine reg_nil ?_
        exact loop_n (j + 1) [] hjl (by omega) (.of rfl rfl rfl rfl rfl ⟨⟨_, rfl, .refl _⟩, rfl, ⟨_, rfl, .refl _⟩, rfl, ⟨_, rfl, .refl _⟩, rfl, ⟨_, rfl, .refl _⟩, rfl, ⟨_, rfl, .refl _⟩, rfl, ⟨_, rfl, .refl _⟩, rfl, ⟨_, rfl, AVLe.of_eq (by rw [e1]; rfl)⟩, rfl, ⟨_, rfl, AVLe.of_eq (by rw [e2]; rfl)⟩, rfl, ⟨_, rfl, AVLe.of_eq (by rw [e3]; rfl)⟩, rfl, ⟨_, rfl, AVLe.of_eq (by rw [e4]; rfl)⟩, rfl, trivial⟩ trivial)
      by_cases k3 : o.kind = 3
      · have d1 := decide_eq_false k1
        have d2 := decide_eq_false k2
        have d3 := decide_eq_true k3
        have e1 := cK_no (k := 1) (l := preO l i p j) (o := o) (by omega)
        have e2 := cK_no (k := 2) (l := preO l i p j) (o := o) (by omega)
        have e3 := cK_yes (l := preO l i p j) k3
        have e4 := cO_no (l := preO l i p j) (o := o) (.inr (.inr k3))
        rw [← hgo] at e1 e2 e3 e4
        refine wc_skip ?_
        refine seq_n ?_
        refine wc_seq ?_
        refine wc_block ?_
        refine wc_seq ?_
        refine wc_region ?_
        refine reg_quiet rfl (index_arr tab_ok rfl rfl rfl rfl rfl (by omega) (by assumption)) ?_
        refine reg_quiet rfl (load_i tab_ok rfl rfl) ?_
        refine reg_new (step_C tab_ok (fun K hk => hk)) rfl ?_
        refine reg_store (store_row tab_ok rfl rfl rfl ⟨_, ⟨rfl, rfl, rfl⟩, rfl⟩ rfl) ?_
        refine reg_nil ?_
        refine seq_n ?_
        refine wc_seq ?_
        refine wc_region ?_
        refine reg_quiet rfl (step_C tab_ok (fun K hk => hk)) ?_
        refine reg_quiet rfl (load_box tab_ok rfl rfl ⟨_, rfl, rfl⟩ rfl) ?_
        refine reg_nil ?_
        refine seq_n ?_
        refine wc_block ?_
        refine wc_seq ?_
        refine wc_region ?_
        refine reg_quiet rfl (step_C tab_ok (fun K hk => hk)) ?_
        refine reg_quiet rfl (step_C tab_ok (fun K hk => hk)) ?_
        refine reg_nil ?_
        refine seq_n ?_
        refine wc_false rfl (by assumption) ?_
        refine wc_seq ?_
        refine wc_region ?_
        refine reg_quiet rfl (step_C tab_ok (fun K hk => hk)) ?_
        refine reg_quiet rfl (step_C tab_ok (fun K hk => hk)) ?_
        refine reg_nil ?_
        refine seq_n ?_
        refine wc_false rfl (by assumption) ?_
        refine wc_seq ?_
        refine wc_region ?_
        refine reg_quiet rfl (step_C tab_ok (fun K hk => hk)) ?_
        refine reg_quiet rfl (step_C tab_ok (fun K hk => hk)) ?_
        refine reg_nil ?_
        refine seq_n ?_
        refine wc_true rfl (by assumption) ?_
        refine wc_region ?_
        refine reg_quiet rfl (step_C tab_ok (fun K hk => hk)) ?_
        refine reg_quiet rfl (add_int tab_ok rfl rfl (wrap_i64 (by omega) (by omega))) ?_
        refine reg_quiet rfl (step_C tab_ok (fun K hk => hk)) ?_
        refine reg_nil ?_
        refine blk_n ?_
        refine blk_n ?_
        refine seq_n ?_
        refine wc_region ?_
        refine reg_quiet rfl (add_int tab_ok rfl rfl (wrap_i64 (by omega) (by omega))) ?_
        refine reg_quiet rfl (step_C tab_ok (fun K hk => hk)) ?_
        refine reg_nil ?_
        exact loop_n (j + 1) [] hjl (by omega) (.of rfl rfl rfl rfl rfl ⟨⟨_, rfl, .refl _⟩, rfl, ⟨_, rfl, .refl _⟩, rfl, ⟨_, rfl, .refl _⟩, rfl, ⟨_, rfl, .refl _⟩, rfl, ⟨_, rfl, .refl _⟩, rfl, ⟨_, rfl, .refl _⟩, rfl, ⟨_, rfl, AVLe.of_eq (by rw [e1]; rfl)⟩, rfl, ⟨_, rfl, AVLe.of_eq (by rw [e2]; rfl)⟩, rfl, ⟨_, rfl, AVLe.of_eq (by rw [e3]; rfl)⟩, rfl, ⟨_, rfl, AVLe.of_eq (by rw [e4]; rfl)⟩, rfl, trivial⟩ trivial)
      · have d1 := decide_eq_false k1
        have d2 := decide_eq_false k2
        have d3 := decide_eq_false k3
        have e1 := cK_no (k := 1) (l := preO l i p j) (o := o) k1
        have e2 := cK_no (k := 2) (l := preO l i p j) (o := o) k2
        have e3 := cK_no (k := 3) (l := preO l i p j) (o := o) k3
        have e4 := cO_yes (l := preO l i p j) k1 k2 k3
        rw [← hgo] at e1 e2 e3 e4
        refine wc_skip ?_
        refine seq_n ?_
        refine wc_seq ?_
        refine wc_block ?_
        refine wc_seq ?_
        refine wc_region ?_
        refine reg_quiet rfl (index_arr tab_ok rfl rfl rfl rfl rfl (by omega) (by assumption)) ?_
        refine reg_quiet rfl (load_i tab_ok rfl rfl) ?_
        refine reg_new (step_C tab_ok (fun K hk => hk)) rfl ?_
        refine reg_store (store_row tab_ok rfl rfl rfl ⟨_, ⟨rfl, rfl, rfl⟩, rfl⟩ rfl) ?_
        refine reg_nil ?_
        refine seq_n ?_
        refine wc_seq ?_
        refine wc_region ?_
        refine reg_quiet rfl (step_C tab_ok (fun K hk => hk)) ?_
        refine reg_quiet rfl (load_box tab_ok rfl rfl ⟨_, rfl, rfl⟩ rfl) ?_
        refine reg_nil ?_
        refine seq_n ?_
        refine wc_block ?_
        refine wc_seq ?_
        refine wc_region ?_
        refine reg_quiet rfl (step_C tab_ok (fun K hk => hk)) ?_
        refine reg_quiet rfl (step_C tab_ok (fun K hk => hk)) ?_
        refine reg_nil ?_
        refine seq_n ?_
        refine wc_false rfl (by assumption) ?_
        refine wc_seq ?_
        refine wc_region ?_
        refine reg_quiet rfl (step_C tab_ok (fun K hk => hk)) ?_
        refine reg_quiet rfl (step_C tab_ok (fun K hk => hk)) ?_
        refine reg_nil ?_
        refine seq_n ?_
        refine wc_false rfl (by assumption) ?_
        refine wc_seq ?_
        refine wc_region ?_
        refine reg_quiet rfl (step_C tab_ok (fun K hk => hk)) ?_
        refine reg_quiet rfl (step_C tab_ok (fun K hk => hk)) ?_
        refine reg_nil ?_
        refine seq_n ?_
        refine wc_false rfl (by assumption) ?_
        refine wc_region ?_
        refine reg_quiet rfl (step_C tab_ok (fun K hk => hk)) ?_
        refine reg_quiet rfl (add_int tab_ok rfl rfl (wrap_i64 (by omega) (by omega))) ?_
        refine reg_quiet rfl (step_C tab_ok (fun K hk => hk)) ?_
        refine reg_nil ?_
        refine blk_n ?_
        refine blk_n ?_
        refine seq_n ?_
        refine wc_region ?_
        refine reg_quiet rfl (add_int tab_ok rfl rfl (wrap_i64 (by omega) (by omega))) ?_
        refine reg_quiet rfl (step_C tab_ok (fun K hk => hk)) ?_
        refine reg_nil ?_
        exact loop_n (j + 1) [] hjl (by omega) (.of rfl rfl rfl rfl rfl ⟨⟨_, rfl, .refl _⟩, rfl, ⟨_, rfl, .refl _⟩, rfl, ⟨_, rfl, .refl _⟩, rfl, ⟨_, rfl, .refl _⟩, rfl, ⟨_, rfl, .refl _⟩, rfl, ⟨_, rfl, .refl _⟩, rfl, ⟨_, rfl, AVLe.of_eq (by rw [e1]; rfl)⟩, rfl, ⟨_, rfl, AVLe.of_eq (by rw [e2]; rfl)⟩, rfl, ⟨_, rfl, AVLe.of_eq (by rw [e3]; rfl)⟩, rfl, ⟨_, rfl, AVLe.of_eq (by rw [e4]; rfl)⟩, rfl, trivial⟩ trivial)
    · have he : j = p.length := by have := of_decide_eq_false h4; omega
      subst he
      refine wc_exit ?_
      refine seq_x ?_
      refine loop_x ?_
      refine blk_x ?_
      refine blk_n ?_
      refine seq_n ?_
      refine wc_region ?_
      refine reg_quiet rfl (add_int tab_ok rfl rfl (wrap_i64 (by omega) (by omega))) ?_
      refine reg_quiet rfl (step_C tab_ok (fun K hk => hk)) ?_
      refine reg_nil ?_
      rw [preO_end hp]
      exact loop_n (i + 1) [] hlt (by omega) (.of rfl rfl rfl rfl rfl ⟨⟨_, rfl, .refl _⟩, rfl, ⟨_, rfl, .refl _⟩, rfl, ⟨_, rfl, .refl _⟩, rfl, ⟨_, rfl, .refl _⟩, rfl, ⟨_, rfl, .refl _⟩, rfl, ⟨_, rfl, .refl _⟩, rfl, ⟨_, rfl, .refl _⟩, rfl, trivial⟩ trivial)
  · have he : i = l.length := by have := of_decide_eq_false h3; omega
    subst he
    rw [List.take_length]
    refine wc_exit ?_
    refine seq_x ?_
    refine loop_x ?_
    refine blk_x ?_
    refine seq_n ?_
    refine wc_seq ?_
    refine wc_region ?_
    refine reg_quiet rfl (step_C tab_ok (fun K hk => hk)) ?_
    refine reg_quiet rfl (step_C tab_ok (fun K hk => hk)) ?_
    refine reg_quiet rfl (step_C tab_ok (fun K hk => hk)) ?_
    refine reg_quiet rfl (step_C tab_ok (fun K hk => hk)) ?_
    refine reg_quiet rfl (step_C tab_ok (fun K hk => hk)) ?_
    refine reg_quiet rfl (step_C tab_ok (fun K hk => hk)) ?_
    refine reg_quiet rfl (step_C tab_ok (fun K hk => hk)) ?_
    refine reg_quiet rfl (step_C tab_ok (fun K hk => hk)) ?_
    refine reg_nil ?_
    refine seq_n ?_
    refine wc_ret ?_
    exact ⟨trivial, [], .of rfl rfl rfl rfl rfl ⟨⟨_, rfl, AVLe.of_eq rfl⟩, rfl, trivial⟩ trivial⟩
end Go.Proofs.YtmojbghcngdkpaaGreatDoor

namespace Go.Proofs.YtmojbghcngdkpaaGreatDoor
open Go.Eng Go.Plain
set_option maxHeartbeats 4000000
set_option maxRecDepth 20000
attribute [local irreducible] WC RegS RegD SeqQ BlkQ ScoQ RegK CutK Sat SatN FnIs LoopQ StepIs OpIs
theorem beq_is (a b : List UInt8) : FnIs Tryz.prog 77 [.d (encB a), .d (encB b)] [] (.bool (decide (a = b))) [] := by
  refine fnIs_of tab_ok Tryz.func77 rfl rfl rfl ?_
  refine wc_seq ?_
  refine wc_region ?_
  refine reg_quiet rfl (step_C tab_ok (fun K hk => hk)) ?_
  refine reg_nil ?_
  refine seq_n ?_
  refine wc_seq ?_
  refine wc_region ?_
  refine reg_quiet rfl (step_C tab_ok (fun K hk => hk)) ?_
  refine reg_quiet rfl (conv_bytes tab_ok rfl rfl rfl rfl) ?_
  refine reg_quiet rfl (step_C tab_ok (fun K hk => hk)) ?_
  refine reg_quiet rfl (conv_bytes tab_ok rfl rfl rfl rfl) ?_
  refine reg_quiet rfl (eql_str tab_ok rfl rfl rfl) ?_
  refine reg_quiet rfl (step_C tab_ok (fun K hk => hk)) ?_
  refine reg_nil ?_
  refine seq_n ?_
  refine wc_ret ?_
  rw [← mkS_dec, ← strOf_byI, ← strOf_byI]
  exact ⟨trivial, [], .of rfl rfl rfl rfl rfl ⟨⟨_, rfl, AVLe.of_eq rfl⟩, rfl, trivial⟩ trivial⟩
theorem sameop_w (x y : POp) (c1 c2 : Bool) (h1 : decide (x.kind = y.kind) = c1) (h2 : decide (x.index = y.index) = c2) : FnIs Tryz.prog 100 [.d (encPOp x), .d (encPOp y)] [] (.bool (c1 && c2 && decide (x.data = y.data))) [] := by
  refine fnIs_of tab_ok Tryz.func100 rfl rfl rfl ?_
  cases c1 <;> cases c2
  · refine wc_seq ?_
    refine wc_region ?_
    refine reg_new (step_C tab_ok (fun K hk => hk)) rfl ?_
    refine reg_new (step_C tab_ok (fun K hk => hk)) rfl ?_
    refine reg_quiet rfl (step_C tab_ok (fun K hk => hk)) ?_
    refine reg_nil ?_
    refine seq_n ?_
    refine wc_seq ?_
    refine wc_region ?_
    refine reg_quiet rfl (step_C tab_ok (fun K hk => hk)) ?_
    refine reg_quiet rfl (load_box tab_ok rfl rfl ⟨_, rfl, rfl⟩ rfl) ?_
    refine reg_quiet rfl (step_C tab_ok (fun K hk => hk)) ?_
    refine reg_quiet rfl (load_box tab_ok rfl rfl ⟨_, rfl, rfl⟩ rfl) ?_
    refine reg_quiet rfl (step_C tab_ok (fun K hk => hk)) ?_
    refine reg_quiet rfl (step_C tab_ok (fun K hk => hk)) ?_
    refine reg_skip rfl rfl (by assumption) rfl rfl ?_
    refine reg_skip rfl rfl (by assumption) rfl rfl ?_
    refine reg_skip rfl rfl (by assumption) rfl rfl ?_
    refine reg_skip rfl rfl (by assumption) rfl rfl ?_
    refine reg_skip rfl rfl (by assumption) rfl rfl ?_
    refine reg_quiet rfl (pick_F tab_ok rfl (by assumption) rfl) ?_
    refine reg_quiet rfl (step_C tab_ok (fun K hk => hk)) ?_
    refine reg_skip rfl rfl rfl rfl rfl ?_
    refine reg_skip rfl rfl rfl rfl rfl ?_
    refine reg_skip rfl rfl rfl rfl rfl ?_
    refine reg_skip rfl rfl rfl rfl rfl ?_
    refine reg_skip rfl rfl rfl rfl rfl ?_
    refine reg_quiet rfl (pick_F tab_ok rfl rfl rfl) ?_
    refine reg_quiet rfl (step_C tab_ok (fun K hk => hk)) ?_
    refine reg_nil ?_
    refine seq_n ?_
    refine wc_ret ?_
    exact ⟨trivial, [], .of rfl rfl rfl rfl rfl ⟨⟨_, rfl, AVLe.of_eq rfl⟩, rfl, trivial⟩ trivial⟩
  · refine wc_seq ?_
    refine wc_region ?_
    refine reg_new (step_C tab_ok (fun K hk => hk)) rfl ?_
    refine reg_new (step_C tab_ok (fun K hk => hk)) rfl ?_
    refine reg_quiet rfl (step_C tab_ok (fun K hk => hk)) ?_
    refine reg_nil ?_
    refine seq_n ?_
    refine wc_seq ?_
    refine wc_region ?_
    refine reg_quiet rfl (step_C tab_ok (fun K hk => hk)) ?_
    refine reg_quiet rfl (load_box tab_ok rfl rfl ⟨_, rfl, rfl⟩ rfl) ?_
    refine reg_quiet rfl (step_C tab_ok (fun K hk => hk)) ?_
    refine reg_quiet rfl (load_box tab_ok rfl rfl ⟨_, rfl, rfl⟩ rfl) ?_
    refine reg_quiet rfl (step_C tab_ok (fun K hk => hk)) ?_
    refine reg_quiet rfl (step_C tab_ok (fun K hk => hk)) ?_
    refine reg_skip rfl rfl (by assumption) rfl rfl ?_
    refine reg_skip rfl rfl (by assumption) rfl rfl ?_
    refine reg_skip rfl rfl (by assumption) rfl rfl ?_
    refine reg_skip rfl rfl (by assumption) rfl rfl ?_
    refine reg_skip rfl rfl (by assumption) rfl rfl ?_
    refine reg_quiet rfl (pick_F tab_ok rfl (by assumption) rfl) ?_
    refine reg_quiet rfl (step_C tab_ok (fun K hk => hk)) ?_
    refine reg_skip rfl rfl rfl rfl rfl ?_
    refine reg_skip rfl rfl rfl rfl rfl ?_
    refine reg_skip rfl rfl rfl rfl rfl ?_
    refine reg_skip rfl rfl rfl rfl rfl ?_
    refine reg_skip rfl rfl rfl rfl rfl ?_
    refine reg_quiet rfl (pick_F tab_ok rfl rfl rfl) ?_
    refine reg_quiet rfl (step_C tab_ok (fun K hk => hk)) ?_
    refine reg_nil ?_
    refine seq_n ?_
    refine wc_ret ?_
    exact ⟨trivial, [], .of rfl rfl rfl rfl rfl ⟨⟨_, rfl, AVLe.of_eq rfl⟩, rfl, trivial⟩ trivial⟩
  · refine wc_seq ?_
    refine wc_region ?_
    refine reg_new (step_C tab_ok (fun K hk => hk)) rfl ?_
    refine reg_new (step_C tab_ok (fun K hk => hk)) rfl ?_
    refine reg_quiet rfl (step_C tab_ok (fun K hk => hk)) ?_
    refine reg_nil ?_
    refine seq_n ?_
    refine wc_seq ?_
    refine wc_region ?_
    refine reg_quiet rfl (step_C tab_ok (fun K hk => hk)) ?_
    refine reg_quiet rfl (load_box tab_ok rfl rfl ⟨_, rfl, rfl⟩ rfl) ?_
    refine reg_quiet rfl (step_C tab_ok (fun K hk => hk)) ?_
    refine reg_quiet rfl (load_box tab_ok rfl rfl ⟨_, rfl, rfl⟩ rfl) ?_
    refine reg_quiet rfl (step_C tab_ok (fun K hk => hk)) ?_
    refine reg_quiet rfl (step_C tab_ok (fun K hk => hk)) ?_
    refine reg_on rfl rfl (by assumption) ?_
    refine reg_quiet rfl (step_C tab_ok (fun K hk => hk)) ?_
    refine reg_on rfl rfl (by assumption) ?_
    refine reg_quiet rfl (load_box tab_ok rfl rfl ⟨_, rfl, rfl⟩ rfl) ?_
    refine reg_on rfl rfl (by assumption) ?_
    refine reg_quiet rfl (step_C tab_ok (fun K hk => hk)) ?_
    refine reg_on rfl rfl (by assumption) ?_
    refine reg_quiet rfl (load_box tab_ok rfl rfl ⟨_, rfl, rfl⟩ rfl) ?_
    refine reg_on rfl rfl (by assumption) ?_
    refine reg_quiet rfl (step_C tab_ok (fun K hk => hk)) ?_
    refine reg_quiet rfl (pick_T tab_ok rfl (by assumption) rfl) ?_
    refine reg_quiet rfl (step_C tab_ok (fun K hk => hk)) ?_
    refine reg_skip rfl rfl (by assumption) rfl rfl ?_
    refine reg_skip rfl rfl (by assumption) rfl rfl ?_
    refine reg_skip rfl rfl (by assumption) rfl rfl ?_
    refine reg_skip rfl rfl (by assumption) rfl rfl ?_
    refine reg_skip rfl rfl (by assumption) rfl rfl ?_
    refine reg_quiet rfl (pick_F tab_ok rfl (by assumption) rfl) ?_
    refine reg_quiet rfl (step_C tab_ok (fun K hk => hk)) ?_
    refine reg_nil ?_
    refine seq_n ?_
    refine wc_ret ?_
    exact ⟨trivial, [], .of rfl rfl rfl rfl rfl ⟨⟨_, rfl, AVLe.of_eq rfl⟩, rfl, trivial⟩ trivial⟩
  · refine wc_seq ?_
    refine wc_region ?_
    refine reg_new (step_C tab_ok (fun K hk => hk)) rfl ?_
    refine reg_new (step_C tab_ok (fun K hk => hk)) rfl ?_
    refine reg_quiet rfl (step_C tab_ok (fun K hk => hk)) ?_
    refine reg_nil ?_
    refine seq_n ?_
    refine wc_seq ?_
    refine wc_region ?_
    refine reg_quiet rfl (step_C tab_ok (fun K hk => hk)) ?_
    refine reg_quiet rfl (load_box tab_ok rfl rfl ⟨_, rfl, rfl⟩ rfl) ?_
    refine reg_quiet rfl (step_C tab_ok (fun K hk => hk)) ?_
    refine reg_quiet rfl (load_box tab_ok rfl rfl ⟨_, rfl, rfl⟩ rfl) ?_
    refine reg_quiet rfl (step_C tab_ok (fun K hk => hk)) ?_
    refine reg_quiet rfl (step_C tab_ok (fun K hk => hk)) ?_
    refine reg_on rfl rfl (by assumption) ?_
    refine reg_quiet rfl (step_C tab_ok (fun K hk => hk)) ?_
    refine reg_on rfl rfl (by assumption) ?_
    refine reg_quiet rfl (load_box tab_ok rfl rfl ⟨_, rfl, rfl⟩ rfl) ?_
    refine reg_on rfl rfl (by assumption) ?_
    refine reg_quiet rfl (step_C tab_ok (fun K hk => hk)) ?_
    refine reg_on rfl rfl (by assumption) ?_
    refine reg_quiet rfl (load_box tab_ok rfl rfl ⟨_, rfl, rfl⟩ rfl) ?_
    refine reg_on rfl rfl (by assumption) ?_
    refine reg_quiet rfl (step_C tab_ok (fun K hk => hk)) ?_
    refine reg_quiet rfl (pick_T tab_ok rfl (by assumption) rfl) ?_
    refine reg_quiet rfl (step_C tab_ok (fun K hk => hk)) ?_
    refine reg_on rfl rfl (by assumption) ?_
    refine reg_quiet rfl (step_C tab_ok (fun K hk => hk)) ?_
    refine reg_on rfl rfl (by assumption) ?_
    refine reg_quiet rfl (load_box tab_ok rfl rfl ⟨_, rfl, rfl⟩ rfl) ?_
    refine reg_on rfl rfl (by assumption) ?_
    refine reg_quiet rfl (step_C tab_ok (fun K hk => hk)) ?_
    refine reg_on rfl rfl (by assumption) ?_
    refine reg_quiet rfl (load_box tab_ok rfl rfl ⟨_, rfl, rfl⟩ rfl) ?_
    refine reg_on rfl rfl (by assumption) ?_
    refine reg_quiet rfl (call_r (beq_is x.data y.data) rfl rfl (arg_e (arg_e arg_nil)) (.inl rfl) (fun _ => rfl)) ?_
    refine reg_quiet rfl (pick_T tab_ok rfl (by assumption) rfl) ?_
    refine reg_quiet rfl (step_C tab_ok (fun K hk => hk)) ?_
    refine reg_nil ?_
    refine seq_n ?_
    refine wc_ret ?_
    exact ⟨trivial, [], .of rfl rfl rfl rfl rfl ⟨⟨_, rfl, AVLe.of_eq rfl⟩, rfl, trivial⟩ trivial⟩
theorem op_dec (x y : POp) : decide (x = y) = (decide (x.kind = y.kind) && decide (x.index = y.index) && decide (x.data = y.data)) := by
  obtain ⟨a, b, c⟩ := x
  obtain ⟨d, e, f⟩ := y
  by_cases h1 : a = d <;> by_cases h2 : b = e <;> by_cases h3 : c = f <;> simp [h1, h2, h3]
theorem sameop_is (x y : POp) : FnIs Tryz.prog 100 [.d (encPOp x), .d (encPOp y)] [] (.bool (decide (x = y))) [] := by
  rw [op_dec]
  exact sameop_w x y _ _ rfl rfl
theorem eqf_ops (p q : List POp) (hL : p.length ≤ 1000000000) : FnIs Tryz.prog 103 [.d (encP p), .d (encP q), fnA 100] [] (.bool (decide (p = q))) [] := by
  refine fnIs_of tab_ok Tryz.func103 rfl rfl rfl ?_
  by_cases hlen : p.length = q.length
  · have hd : (!decide ((p.length : Int) = (q.length : Int))) = false := by rw [decide_eq_true (by omega)]; rfl
    refine wc_seq ?_
    refine wc_region ?_
    refine reg_quiet rfl (step_C tab_ok (fun K hk => hk)) ?_
    refine reg_nil ?_
    refine seq_n ?_
    refine wc_seq ?_
    refine wc_seq ?_
    refine wc_region ?_
    refine reg_quiet rfl (step_C tab_ok (fun K hk => hk)) ?_
    refine reg_quiet rfl (len_arr tab_ok rfl rfl) ?_
    refine reg_quiet rfl (step_C tab_ok (fun K hk => hk)) ?_
    refine reg_quiet rfl (len_arr tab_ok rfl rfl) ?_
    refine reg_quiet rfl (step_C tab_ok (fun K hk => hk)) ?_
    refine reg_nil ?_
    refine seq_n ?_
    refine wc_false rfl (by assumption) ?_
    refine wc_skip ?_
    refine seq_n ?_
    refine wc_seq ?_
    refine wc_seq ?_
    refine wc_region ?_
    refine reg_quiet rfl (step_C tab_ok (fun K hk => hk)) ?_
    refine reg_quiet rfl (len_arr tab_ok rfl rfl) ?_
    refine reg_quiet rfl (step_C tab_ok (fun K hk => hk)) ?_
    refine reg_nil ?_
    refine seq_n ?_
    refine wc_block ?_
    refine wc_inv (fun i : Nat => ⟨[(17, .int .i64 i), (16, .int .i64 p.length), (15, .d (encP p)), (2, fnA 100), (1, .d (encP q))], [], 72, Tryz.f103.ntmps, 64⟩) (fun i => i ≤ p.length ∧ p.take i = q.take i) (fun i => p.length - i) 0 [] ⟨Nat.zero_le _, by simp⟩
      (.of rfl rfl rfl rfl rfl ⟨⟨_, rfl, .refl _⟩, rfl, ⟨_, rfl, .refl _⟩, rfl, ⟨_, rfl, .refl _⟩, rfl, ⟨_, rfl, .refl _⟩, rfl, ⟨_, rfl, .refl _⟩, rfl, trivial⟩ trivial) ?_
    intro i hi
    obtain ⟨hi, hsame⟩ := hi
    refine wc_of ?_
    refine wc_seq ?_
    refine wc_region ?_
    refine reg_quiet rfl (step_C tab_ok (fun K hk => hk)) ?_
    refine reg_nil ?_
    refine seq_n ?_
    refine wc_seq ?_
    refine wc_cond rfl (fun h3 => ?_) (fun h3 => ?_)
    · have hlt : i < p.length := by have := of_decide_eq_true h3; omega
      obtain ⟨x, hx⟩ : ∃ x, p[i]? = some x := ⟨_, List.getElem?_eq_getElem hlt⟩
      obtain ⟨y, hy⟩ : ∃ y, q[i]? = some y := ⟨_, List.getElem?_eq_getElem (by omega)⟩
      have hx' : p[((i : Int)).toNat]? = some x := by rw [Int.toNat_natCast]; exact hx
      have hy' : q[((i : Int)).toNat]? = some y := by rw [Int.toNat_natCast]; exact hy
      by_cases he : x = y
      · have hn : (!decide (x = y)) = false := by rw [decide_eq_true he]; rfl
        refine wc_skip ?_
        refine seq_n ?_
        refine wc_seq ?_
        refine wc_block ?_
        refine wc_seq ?_
        refine wc_region ?_
        refine reg_quiet rfl (step_C tab_ok (fun K hk => hk)) ?_
        refine reg_quiet rfl (index_arr tab_ok rfl rfl rfl rfl rfl (by omega) (by assumption)) ?_
        refine reg_quiet rfl (load_i tab_ok rfl rfl) ?_
        refine reg_new (step_C tab_ok (fun K hk => hk)) rfl ?_
        refine reg_quiet rfl (step_C tab_ok (fun K hk => hk)) ?_
        refine reg_store (store_row tab_ok rfl rfl rfl ⟨_, ⟨rfl, rfl, rfl⟩, rfl⟩ rfl) ?_
        refine reg_nil ?_
        refine seq_n ?_
        refine wc_seq ?_
        refine wc_region ?_
        refine reg_quiet rfl (step_C tab_ok (fun K hk => hk)) ?_
        refine reg_quiet rfl (step_C tab_ok (fun K hk => hk)) ?_
        refine reg_quiet rfl (index_arr tab_ok rfl rfl rfl rfl rfl (by omega) (by assumption)) ?_
        refine reg_quiet rfl (load_i tab_ok rfl rfl) ?_
        refine reg_new (step_C tab_ok (fun K hk => hk)) rfl ?_
        refine reg_store (store_row tab_ok rfl rfl rfl ⟨_, ⟨rfl, rfl, rfl⟩, rfl⟩ rfl) ?_
        refine reg_nil ?_
        refine seq_n ?_
        refine wc_seq ?_
        refine wc_region ?_
        refine reg_quiet rfl (step_C tab_ok (fun K hk => hk)) ?_
        refine reg_quiet rfl (load_box tab_ok rfl rfl rfl rfl) ?_
        refine reg_quiet rfl (load_box tab_ok rfl rfl rfl rfl) ?_
        refine reg_quiet rfl (call_r (sameop_is x y) rfl rfl (arg_e (arg_e arg_nil)) (.inl rfl) (fun _ => rfl)) ?_
        refine reg_quiet rfl (step_C tab_ok (fun K hk => hk)) ?_
        refine reg_nil ?_
        refine seq_n ?_
        refine wc_false rfl (by assumption) ?_
        refine wc_skip ?_
        refine blk_n ?_
        refine seq_n ?_
        refine wc_region ?_
        refine reg_quiet rfl (add_int tab_ok rfl rfl (wrap_i64 (by omega) (by omega))) ?_
        refine reg_quiet rfl (step_C tab_ok (fun K hk => hk)) ?_
        refine reg_nil ?_
        exact loop_n (i + 1) [] ⟨hlt, by rw [List.take_add_one, List.take_add_one, hx, hy, hsame, he]⟩ (by omega) (.of rfl rfl rfl rfl rfl ⟨⟨_, rfl, .refl _⟩, rfl, ⟨_, rfl, .refl _⟩, rfl, ⟨_, rfl, .refl _⟩, rfl, ⟨_, rfl, .refl _⟩, rfl, ⟨_, rfl, .refl _⟩, rfl, trivial⟩ trivial)
      · have hn : (!decide (x = y)) = true := by rw [decide_eq_false he]; rfl
        have hne : decide (p = q) = false := decide_eq_false fun e => he (by rw [e, hy] at hx; cases hx; rfl)
        rw [hne]
        refine wc_skip ?_
        refine seq_n ?_
        refine wc_seq ?_
        refine wc_block ?_
        refine wc_seq ?_
        refine wc_region ?_
        refine reg_quiet rfl (step_C tab_ok (fun K hk => hk)) ?_
        refine reg_quiet rfl (index_arr tab_ok rfl rfl rfl rfl rfl (by omega) (by assumption)) ?_
        refine reg_quiet rfl (load_i tab_ok rfl rfl) ?_
        refine reg_new (step_C tab_ok (fun K hk => hk)) rfl ?_
        refine reg_quiet rfl (step_C tab_ok (fun K hk => hk)) ?_
        refine reg_store (store_row tab_ok rfl rfl rfl ⟨_, ⟨rfl, rfl, rfl⟩, rfl⟩ rfl) ?_
        refine reg_nil ?_
        refine seq_n ?_
        refine wc_seq ?_
        refine wc_region ?_
        refine reg_quiet rfl (step_C tab_ok (fun K hk => hk)) ?_
        refine reg_quiet rfl (step_C tab_ok (fun K hk => hk)) ?_
        refine reg_quiet rfl (index_arr tab_ok rfl rfl rfl rfl rfl (by omega) (by assumption)) ?_
        refine reg_quiet rfl (load_i tab_ok rfl rfl) ?_
        refine reg_new (step_C tab_ok (fun K hk => hk)) rfl ?_
        refine reg_store (store_row tab_ok rfl rfl rfl ⟨_, ⟨rfl, rfl, rfl⟩, rfl⟩ rfl) ?_
        refine reg_nil ?_
        refine seq_n ?_
        refine wc_seq ?_
        refine wc_region ?_
        refine reg_quiet rfl (step_C tab_ok (fun K hk => hk)) ?_
        refine reg_quiet rfl (load_box tab_ok rfl rfl rfl rfl) ?_
        refine reg_quiet rfl (load_box tab_ok rfl rfl rfl rfl) ?_
        refine reg_quiet rfl (call_r (sameop_is x y) rfl rfl (arg_e (arg_e arg_nil)) (.inl rfl) (fun _ => rfl)) ?_
        refine reg_quiet rfl (step_C tab_ok (fun K hk => hk)) ?_
        refine reg_nil ?_
        refine seq_n ?_
        refine wc_true rfl (by assumption) ?_
        refine wc_seq ?_
        refine wc_region ?_
        refine reg_quiet rfl (step_C tab_ok (fun K hk => hk)) ?_
        refine reg_nil ?_
        refine seq_n ?_
        refine wc_ret ?_
        refine blk_r ?_
        refine seq_r ?_
        refine loop_r ?_
        refine blk_r ?_
        refine seq_r ?_
        exact ⟨trivial, [], .of rfl rfl rfl rfl rfl ⟨⟨_, rfl, AVLe.of_eq rfl⟩, rfl, trivial⟩ trivial⟩
    · have he : i = p.length := by have := of_decide_eq_false h3; omega
      subst he
      have hpq : decide (p = q) = true := decide_eq_true (by rw [List.take_length] at hsame; rw [hsame, hlen, List.take_length])
      rw [hpq]
      refine wc_exit ?_
      refine seq_x ?_
      refine loop_x ?_
      refine blk_x ?_
      refine seq_n ?_
      refine wc_seq ?_
      refine wc_region ?_
      refine reg_quiet rfl (step_C tab_ok (fun K hk => hk)) ?_
      refine reg_nil ?_
      refine seq_n ?_
      refine wc_ret ?_
      exact ⟨trivial, [], .of rfl rfl rfl rfl rfl ⟨⟨_, rfl, AVLe.of_eq rfl⟩, rfl, trivial⟩ trivial⟩
  · have hd : (!decide ((p.length : Int) = (q.length : Int))) = true := by rw [decide_eq_false (by omega)]; rfl
    have hne : decide (p = q) = false := decide_eq_false fun e => hlen (by rw [e])
    rw [hne]
    refine wc_seq ?_
    refine wc_region ?_
    refine reg_quiet rfl (step_C tab_ok (fun K hk => hk)) ?_
    refine reg_nil ?_
    refine seq_n ?_
    refine wc_seq ?_
    refine wc_seq ?_
    refine wc_region ?_
    refine reg_quiet rfl (step_C tab_ok (fun K hk => hk)) ?_
    refine reg_quiet rfl (len_arr tab_ok rfl rfl) ?_
    refine reg_quiet rfl (step_C tab_ok (fun K hk => hk)) ?_
    refine reg_quiet rfl (len_arr tab_ok rfl rfl) ?_
    refine reg_quiet rfl (step_C tab_ok (fun K hk => hk)) ?_
    refine reg_nil ?_
    refine seq_n ?_
    refine wc_true rfl (by assumption) ?_
    refine wc_seq ?_
    refine wc_region ?_
    refine reg_quiet rfl (step_C tab_ok (fun K hk => hk)) ?_
    refine reg_nil ?_
    refine seq_n ?_
    refine wc_ret ?_
    refine seq_r ?_
    exact ⟨trivial, [], .of rfl rfl rfl rfl rfl ⟨⟨_, rfl, AVLe.of_eq rfl⟩, rfl, trivial⟩ trivial⟩
end Go.Proofs.YtmojbghcngdkpaaGreatDoor

namespace Go.Proofs.YtmojbghcngdkpaaGreatDoor
open Go.Eng Go.Plain
set_option maxHeartbeats 4000000
set_option maxRecDepth 20000
attribute [local irreducible] WC RegS RegD SeqQ BlkQ ScoQ RegK CutK Sat SatN FnIs LoopQ StepIs OpIs
abbrev sRow : List (Nat × Row) := [(0, .box 165 (fnA 100))]
theorem same2_is (p q : List POp) (hL : p.length ≤ 1000000000) : FnIs Tryz.prog 102 [.d (encP p), .d (encP q), .ptr 0 []] sRow (.bool (decide (p = q))) sRow := by
  refine fnIs_of tab_ok Tryz.func102 rfl rfl rfl ?_
  refine wc_seq ?_
  refine wc_region ?_
  refine reg_quiet rfl (step_C tab_ok (fun K hk => hk)) ?_
  refine reg_nil ?_
  refine seq_n ?_
  refine wc_seq ?_
  refine wc_region ?_
  refine reg_quiet rfl (step_C tab_ok (fun K hk => hk)) ?_
  refine reg_quiet rfl (step_C tab_ok (fun K hk => hk)) ?_
  refine reg_quiet rfl (load_box tab_ok rfl rfl rfl rfl) ?_
  refine reg_quiet rfl (call_r (eqf_ops p q hL) rfl rfl (arg_e (arg_e (arg_fn arg_nil))) (.inl rfl) (fun _ => rfl)) ?_
  refine reg_quiet rfl (step_C tab_ok (fun K hk => hk)) ?_
  refine reg_nil ?_
  refine seq_n ?_
  refine wc_ret ?_
  exact ⟨trivial, [], .of rfl rfl rfl rfl rfl ⟨⟨_, rfl, AVLe.of_eq rfl⟩, rfl, trivial⟩ ⟨⟨rfl, rfl, _, rfl, .refl _⟩, trivial⟩⟩
theorem eqf_lists (p q : List (List POp)) (hL : p.length ≤ 1000000000) (hP : ∀ x ∈ p, x.length ≤ 1000000000) : FnIs Tryz.prog 101 [.d (encPL p), .d (encPL q), .fn (.func 102) .anil (.acons (.ptr 0 []) .anil)] sRow (.bool (decide (p = q))) sRow := by
  refine fnIs_of tab_ok Tryz.func101 rfl rfl rfl ?_
  by_cases hlen : p.length = q.length
  · have hd : (!decide ((p.length : Int) = (q.length : Int))) = false := by rw [decide_eq_true (by omega)]; rfl
    refine wc_seq ?_
    refine wc_region ?_
    refine reg_quiet rfl (step_C tab_ok (fun K hk => hk)) ?_
    refine reg_nil ?_
    refine seq_n ?_
    refine wc_seq ?_
    refine wc_seq ?_
    refine wc_region ?_
    refine reg_quiet rfl (step_C tab_ok (fun K hk => hk)) ?_
    refine reg_quiet rfl (len_arr tab_ok rfl rfl) ?_
    refine reg_quiet rfl (step_C tab_ok (fun K hk => hk)) ?_
    refine reg_quiet rfl (len_arr tab_ok rfl rfl) ?_
    refine reg_quiet rfl (step_C tab_ok (fun K hk => hk)) ?_
    refine reg_nil ?_
    refine seq_n ?_
    refine wc_false rfl (by assumption) ?_
    refine wc_skip ?_
    refine seq_n ?_
    refine wc_seq ?_
    refine wc_seq ?_
    refine wc_region ?_
    refine reg_quiet rfl (step_C tab_ok (fun K hk => hk)) ?_
    refine reg_quiet rfl (len_arr tab_ok rfl rfl) ?_
    refine reg_quiet rfl (step_C tab_ok (fun K hk => hk)) ?_
    refine reg_nil ?_
    refine seq_n ?_
    refine wc_block ?_
    refine wc_inv (fun i : Nat => ⟨[(17, .int .i64 i), (16, .int .i64 p.length), (15, .d (encPL p)), (2, .fn (.func 102) .anil (.acons (.ptr 0 []) .anil)), (1, .d (encPL q))], [(0, some (.box 165 (fnA 100)))], 72, Tryz.f101.ntmps, 64⟩) (fun i => i ≤ p.length ∧ p.take i = q.take i) (fun i => p.length - i) 0 [] ⟨Nat.zero_le _, by simp⟩
      (.of rfl rfl rfl rfl rfl ⟨⟨_, rfl, .refl _⟩, rfl, ⟨_, rfl, .refl _⟩, rfl, ⟨_, rfl, .refl _⟩, rfl, ⟨_, rfl, .refl _⟩, rfl, ⟨_, rfl, .refl _⟩, rfl, trivial⟩ ⟨⟨rfl, rfl, _, rfl, .refl _⟩, trivial⟩) ?_
    intro i hi
    obtain ⟨hi, hsame⟩ := hi
    refine wc_of ?_
    refine wc_seq ?_
    refine wc_region ?_
    refine reg_quiet rfl (step_C tab_ok (fun K hk => hk)) ?_
    refine reg_nil ?_
    refine seq_n ?_
    refine wc_seq ?_
    refine wc_cond rfl (fun h3 => ?_) (fun h3 => ?_)
    · have hlt : i < p.length := by have := of_decide_eq_true h3; omega
      obtain ⟨x, hx⟩ : ∃ x, p[i]? = some x := ⟨_, List.getElem?_eq_getElem hlt⟩
      obtain ⟨y, hy⟩ : ∃ y, q[i]? = some y := ⟨_, List.getElem?_eq_getElem (by omega)⟩
      have hx' : p[((i : Int)).toNat]? = some x := by rw [Int.toNat_natCast]; exact hx
      have hy' : q[((i : Int)).toNat]? = some y := by rw [Int.toNat_natCast]; exact hy
      have hxl := hP x (List.mem_of_getElem? hx)
      by_cases he : x = y
      · have hn : (!decide (x = y)) = false := by rw [decide_eq_true he]; rfl
        refine wc_skip ?_
        refine seq_n ?_
        refine wc_seq ?_
        refine wc_block ?_
        refine wc_seq ?_
        refine wc_region ?_
        refine reg_quiet rfl (step_C tab_ok (fun K hk => hk)) ?_
        refine reg_quiet rfl (index_arr tab_ok rfl rfl rfl rfl rfl (by omega) (by assumption)) ?_
        refine reg_quiet rfl (load_i tab_ok rfl rfl) ?_
        refine reg_quiet rfl (step_C tab_ok (fun K hk => hk)) ?_
        refine reg_quiet rfl (step_C tab_ok (fun K hk => hk)) ?_
        refine reg_nil ?_
        refine seq_n ?_
        refine wc_seq ?_
        refine wc_region ?_
        refine reg_quiet rfl (step_C tab_ok (fun K hk => hk)) ?_
        refine reg_quiet rfl (step_C tab_ok (fun K hk => hk)) ?_
        refine reg_quiet rfl (index_arr tab_ok rfl rfl rfl rfl rfl (by omega) (by assumption)) ?_
        refine reg_quiet rfl (load_i tab_ok rfl rfl) ?_
        refine reg_quiet rfl (step_C tab_ok (fun K hk => hk)) ?_
        refine reg_nil ?_
        refine seq_n ?_
        refine wc_seq ?_
        refine wc_region ?_
        refine reg_quiet rfl (step_C tab_ok (fun K hk => hk)) ?_
        refine reg_quiet rfl (step_C tab_ok (fun K hk => hk)) ?_
        refine reg_quiet rfl (step_C tab_ok (fun K hk => hk)) ?_
        refine reg_new2 (call_h [(0, some 0)] (same2_is x y hxl) rfl rfl rfl (arg_e (arg_e (arg_ptr rfl rfl arg_nil))) ⟨⟨rfl, rfl, _, _, rfl, rfl, .refl _⟩, trivial⟩ rfl rfl (.inl rfl) rfl rfl) rfl ?_
        refine reg_quiet rfl (step_C tab_ok (fun K hk => hk)) ?_
        refine reg_nil ?_
        refine seq_n ?_
        refine wc_false rfl (by assumption) ?_
        refine wc_skip ?_
        refine blk_n ?_
        refine seq_n ?_
        refine wc_region ?_
        refine reg_quiet rfl (add_int tab_ok rfl rfl (wrap_i64 (by omega) (by omega))) ?_
        refine reg_quiet rfl (step_C tab_ok (fun K hk => hk)) ?_
        refine reg_nil ?_
        exact loop_n (i + 1) [] ⟨hlt, by rw [List.take_add_one, List.take_add_one, hx, hy, hsame, he]⟩ (by omega) (.of rfl rfl rfl rfl rfl ⟨⟨_, rfl, .refl _⟩, rfl, ⟨_, rfl, .refl _⟩, rfl, ⟨_, rfl, .refl _⟩, rfl, ⟨_, rfl, .refl _⟩, rfl, ⟨_, rfl, .refl _⟩, rfl, trivial⟩ ⟨⟨rfl, rfl, _, rfl, .refl _⟩, trivial⟩)
      · have hn : (!decide (x = y)) = true := by rw [decide_eq_false he]; rfl
        have hne : decide (p = q) = false := decide_eq_false fun e => he (by rw [e, hy] at hx; cases hx; rfl)
        rw [hne]
        refine wc_skip ?_
        refine seq_n ?_
        refine wc_seq ?_
        refine wc_block ?_
        refine wc_seq ?_
        refine wc_region ?_
        refine reg_quiet rfl (step_C tab_ok (fun K hk => hk)) ?_
        refine reg_quiet rfl (index_arr tab_ok rfl rfl rfl rfl rfl (by omega) (by assumption)) ?_
        refine reg_quiet rfl (load_i tab_ok rfl rfl) ?_
        refine reg_quiet rfl (step_C tab_ok (fun K hk => hk)) ?_
        refine reg_quiet rfl (step_C tab_ok (fun K hk => hk)) ?_
        refine reg_nil ?_
        refine seq_n ?_
        refine wc_seq ?_
        refine wc_region ?_
        refine reg_quiet rfl (step_C tab_ok (fun K hk => hk)) ?_
        refine reg_quiet rfl (step_C tab_ok (fun K hk => hk)) ?_
        refine reg_quiet rfl (index_arr tab_ok rfl rfl rfl rfl rfl (by omega) (by assumption)) ?_
        refine reg_quiet rfl (load_i tab_ok rfl rfl) ?_
        refine reg_quiet rfl (step_C tab_ok (fun K hk => hk)) ?_
        refine reg_nil ?_
        refine seq_n ?_
        refine wc_seq ?_
        refine wc_region ?_
        refine reg_quiet rfl (step_C tab_ok (fun K hk => hk)) ?_
        refine reg_quiet rfl (step_C tab_ok (fun K hk => hk)) ?_
        refine reg_quiet rfl (step_C tab_ok (fun K hk => hk)) ?_
        refine reg_new2 (call_h [(0, some 0)] (same2_is x y hxl) rfl rfl rfl (arg_e (arg_e (arg_ptr rfl rfl arg_nil))) ⟨⟨rfl, rfl, _, _, rfl, rfl, .refl _⟩, trivial⟩ rfl rfl (.inl rfl) rfl rfl) rfl ?_
        refine reg_quiet rfl (step_C tab_ok (fun K hk => hk)) ?_
        refine reg_nil ?_
        refine seq_n ?_
        refine wc_true rfl (by assumption) ?_
        refine wc_seq ?_
        refine wc_region ?_
        refine reg_quiet rfl (step_C tab_ok (fun K hk => hk)) ?_
        refine reg_nil ?_
        refine seq_n ?_
        refine wc_ret ?_
        refine blk_r ?_
        refine seq_r ?_
        refine loop_r ?_
        refine blk_r ?_
        refine seq_r ?_
        exact ⟨trivial, [], .of rfl rfl rfl rfl rfl ⟨⟨_, rfl, AVLe.of_eq rfl⟩, rfl, trivial⟩ ⟨⟨rfl, rfl, _, rfl, .refl _⟩, trivial⟩⟩
    · have he : i = p.length := by have := of_decide_eq_false h3; omega
      subst he
      have hpq : decide (p = q) = true := decide_eq_true (by rw [List.take_length] at hsame; rw [hsame, hlen, List.take_length])
      rw [hpq]
      refine wc_exit ?_
      refine seq_x ?_
      refine loop_x ?_
      refine blk_x ?_
      refine seq_n ?_
      refine wc_seq ?_
      refine wc_region ?_
      refine reg_quiet rfl (step_C tab_ok (fun K hk => hk)) ?_
      refine reg_nil ?_
      refine seq_n ?_
      refine wc_ret ?_
      exact ⟨trivial, [], .of rfl rfl rfl rfl rfl ⟨⟨_, rfl, AVLe.of_eq rfl⟩, rfl, trivial⟩ ⟨⟨rfl, rfl, _, rfl, .refl _⟩, trivial⟩⟩
  · have hd : (!decide ((p.length : Int) = (q.length : Int))) = true := by rw [decide_eq_false (by omega)]; rfl
    have hne : decide (p = q) = false := decide_eq_false fun e => hlen (by rw [e])
    rw [hne]
    refine wc_seq ?_
    refine wc_region ?_
    refine reg_quiet rfl (step_C tab_ok (fun K hk => hk)) ?_
    refine reg_nil ?_
    refine seq_n ?_
    refine wc_seq ?_
    refine wc_seq ?_
    refine wc_region ?_
    refine reg_quiet rfl (step_C tab_ok (fun K hk => hk)) ?_
    refine reg_quiet rfl (len_arr tab_ok rfl rfl) ?_
    refine reg_quiet rfl (step_C tab_ok (fun K hk => hk)) ?_
    refine reg_quiet rfl (len_arr tab_ok rfl rfl) ?_
    refine reg_quiet rfl (step_C tab_ok (fun K hk => hk)) ?_
    refine reg_nil ?_
    refine seq_n ?_
    refine wc_true rfl (by assumption) ?_
    refine wc_seq ?_
    refine wc_region ?_
    refine reg_quiet rfl (step_C tab_ok (fun K hk => hk)) ?_
    refine reg_nil ?_
    refine seq_n ?_
    refine wc_ret ?_
    refine seq_r ?_
    exact ⟨trivial, [], .of rfl rfl rfl rfl rfl ⟨⟨_, rfl, AVLe.of_eq rfl⟩, rfl, trivial⟩ ⟨⟨rfl, rfl, _, rfl, .refl _⟩, trivial⟩⟩
theorem same_is (p q : List (List POp)) (hL : p.length ≤ 1000000000) (hP : ∀ x ∈ p, x.length ≤ 1000000000) : FnIs Tryz.prog 52 [.d (encPL p), .d (encPL q)] [] (.bool (decide (p = q))) [] := by
  refine fnIs_of tab_ok Tryz.func52 rfl rfl rfl ?_
  refine wc_seq ?_
  refine wc_region ?_
  refine reg_quiet rfl (step_C tab_ok (fun K hk => hk)) ?_
  refine reg_nil ?_
  refine seq_n ?_
  refine wc_seq ?_
  refine wc_region ?_
  refine reg_new (step_C tab_ok (fun K hk => hk)) rfl ?_
  refine reg_store (store_row tab_ok rfl rfl rfl ⟨_, ⟨rfl, rfl, rfl⟩, rfl⟩ rfl) ?_
  refine reg_nil ?_
  refine seq_n ?_
  refine wc_seq ?_
  refine wc_region ?_
  refine reg_quiet rfl (step_C tab_ok (fun K hk => hk)) ?_
  refine reg_quiet rfl (step_C tab_ok (fun K hk => hk)) ?_
  refine reg_quiet rfl (step_C tab_ok (fun K hk => hk)) ?_
  refine reg_new2 (call_h [(0, some 72)] (eqf_lists p q hL hP) rfl rfl rfl (arg_e (arg_e (arg_fn1 rfl rfl arg_nil))) ⟨⟨rfl, rfl, _, _, rfl, rfl, .refl _⟩, trivial⟩ rfl rfl (.inl rfl) rfl rfl) rfl ?_
  refine reg_quiet rfl (step_C tab_ok (fun K hk => hk)) ?_
  refine reg_nil ?_
  refine seq_n ?_
  refine wc_ret ?_
  exact ⟨trivial, [], .of rfl rfl rfl rfl rfl ⟨⟨_, rfl, AVLe.of_eq rfl⟩, rfl, trivial⟩ trivial⟩
end Go.Proofs.YtmojbghcngdkpaaGreatDoor

namespace Go.Proofs.YtmojbghcngdkpaaGreatDoor
open Go.Eng Go.Plain
set_option maxHeartbeats 4000000
set_option maxRecDepth 20000
attribute [local irreducible] WC RegS RegD SeqQ BlkQ ScoQ RegK CutK Sat SatN FnIs LoopQ StepIs OpIs
theorem str_dec (a b : List UInt8) : decide (strOf (byI a) = strOf (byI b)) = decide (a = b) := by rw [strOf_byI, strOf_byI, mkS_dec]
theorem requal_w (x y : POp) (c1 c2 c3 : Bool) (h1 : (!decide (x.kind = y.kind)) = !c1) (h2 : (!decide (x.index = y.index)) = !c2) (h3 : (!decide (strOf (byI x.data) = strOf (byI y.data))) = !c3) : FnIs Tryz.prog 67 [.d (encPOp x), .d (encPOp y)] [] (.d (i6 (if (c1 && c2 && c3) = true then 1 else 0))) [] := by
  refine fnIs_of tab_ok Tryz.func67 rfl rfl rfl ?_
  cases c1 <;> cases c2 <;> cases c3
  · refine wc_seq ?_
    refine wc_region ?_
    refine reg_new (step_C tab_ok (fun K hk => hk)) rfl ?_
    refine reg_new (step_C tab_ok (fun K hk => hk)) rfl ?_
    refine reg_quiet rfl (step_C tab_ok (fun K hk => hk)) ?_
    refine reg_nil ?_
    refine seq_n ?_
    refine wc_seq ?_
    refine wc_seq ?_
    refine wc_region ?_
    refine reg_quiet rfl (step_C tab_ok (fun K hk => hk)) ?_
    refine reg_quiet rfl (load_box tab_ok rfl rfl ⟨_, rfl, rfl⟩ rfl) ?_
    refine reg_quiet rfl (step_C tab_ok (fun K hk => hk)) ?_
    refine reg_quiet rfl (load_box tab_ok rfl rfl ⟨_, rfl, rfl⟩ rfl) ?_
    refine reg_quiet rfl (step_C tab_ok (fun K hk => hk)) ?_
    refine reg_quiet rfl (step_C tab_ok (fun K hk => hk)) ?_
    refine reg_skip rfl rfl (by assumption) rfl rfl ?_
    refine reg_skip rfl rfl (by assumption) rfl rfl ?_
    refine reg_skip rfl rfl (by assumption) rfl rfl ?_
    refine reg_skip rfl rfl (by assumption) rfl rfl ?_
    refine reg_skip rfl rfl (by assumption) rfl rfl ?_
    refine reg_quiet rfl (pick_T tab_ok rfl (by assumption) rfl) ?_
    refine reg_quiet rfl (step_C tab_ok (fun K hk => hk)) ?_
    refine reg_skip rfl rfl rfl rfl rfl ?_
    refine reg_skip rfl rfl rfl rfl rfl ?_
    refine reg_skip rfl rfl rfl rfl rfl ?_
    refine reg_skip rfl rfl rfl rfl rfl ?_
    refine reg_skip rfl rfl rfl rfl rfl ?_
    refine reg_skip rfl rfl rfl rfl rfl ?_
    refine reg_skip rfl rfl rfl rfl rfl ?_
    refine reg_quiet rfl (pick_T tab_ok rfl rfl rfl) ?_
    refine reg_nil ?_
    refine seq_n ?_
    refine wc_true rfl rfl ?_
    refine wc_seq ?_
    refine wc_region ?_
    refine reg_quiet rfl (step_C tab_ok (fun K hk => hk)) ?_
    refine reg_nil ?_
    refine seq_n ?_
    refine wc_ret ?_
    refine seq_r ?_
    exact ⟨trivial, [], .of rfl rfl rfl rfl rfl ⟨⟨_, rfl, AVLe.of_eq rfl⟩, rfl, trivial⟩ trivial⟩
  · refine wc_seq ?_
    refine wc_region ?_
    refine reg_new (step_C tab_ok (fun K hk => hk)) rfl ?_
    refine reg_new (step_C tab_ok (fun K hk => hk)) rfl ?_
    refine reg_quiet rfl (step_C tab_ok (fun K hk => hk)) ?_
    refine reg_nil ?_
    refine seq_n ?_
    refine wc_seq ?_
    refine wc_seq ?_
    refine wc_region ?_
    refine reg_quiet rfl (step_C tab_ok (fun K hk => hk)) ?_
    refine reg_quiet rfl (load_box tab_ok rfl rfl ⟨_, rfl, rfl⟩ rfl) ?_
    refine reg_quiet rfl (step_C tab_ok (fun K hk => hk)) ?_
    refine reg_quiet rfl (load_box tab_ok rfl rfl ⟨_, rfl, rfl⟩ rfl) ?_
    refine reg_quiet rfl (step_C tab_ok (fun K hk => hk)) ?_
    refine reg_quiet rfl (step_C tab_ok (fun K hk => hk)) ?_
    refine reg_skip rfl rfl (by assumption) rfl rfl ?_
    refine reg_skip rfl rfl (by assumption) rfl rfl ?_
    refine reg_skip rfl rfl (by assumption) rfl rfl ?_
    refine reg_skip rfl rfl (by assumption) rfl rfl ?_
    refine reg_skip rfl rfl (by assumption) rfl rfl ?_
    refine reg_quiet rfl (pick_T tab_ok rfl (by assumption) rfl) ?_
    refine reg_quiet rfl (step_C tab_ok (fun K hk => hk)) ?_
    refine reg_skip rfl rfl rfl rfl rfl ?_
    refine reg_skip rfl rfl rfl rfl rfl ?_
    refine reg_skip rfl rfl rfl rfl rfl ?_
    refine reg_skip rfl rfl rfl rfl rfl ?_
    refine reg_skip rfl rfl rfl rfl rfl ?_
    refine reg_skip rfl rfl rfl rfl rfl ?_
    refine reg_skip rfl rfl rfl rfl rfl ?_
    refine reg_quiet rfl (pick_T tab_ok rfl rfl rfl) ?_
    refine reg_nil ?_
    refine seq_n ?_
    refine wc_true rfl rfl ?_
    refine wc_seq ?_
    refine wc_region ?_
    refine reg_quiet rfl (step_C tab_ok (fun K hk => hk)) ?_
    refine reg_nil ?_
    refine seq_n ?_
    refine wc_ret ?_
    refine seq_r ?_
    exact ⟨trivial, [], .of rfl rfl rfl rfl rfl ⟨⟨_, rfl, AVLe.of_eq rfl⟩, rfl, trivial⟩ trivial⟩
  · refine wc_seq ?_
    refine wc_region ?_
    refine reg_new (step_C tab_ok (fun K hk => hk)) rfl ?_
    refine reg_new (step_C tab_ok (fun K hk => hk)) rfl ?_
    refine reg_quiet rfl (step_C tab_ok (fun K hk => hk)) ?_
    refine reg_nil ?_
    refine seq_n ?_
    refine wc_seq ?_
    refine wc_seq ?_
    refine wc_region ?_
    refine reg_quiet rfl (step_C tab_ok (fun K hk => hk)) ?_
    refine reg_quiet rfl (load_box tab_ok rfl rfl ⟨_, rfl, rfl⟩ rfl) ?_
    refine reg_quiet rfl (step_C tab_ok (fun K hk => hk)) ?_
    refine reg_quiet rfl (load_box tab_ok rfl rfl ⟨_, rfl, rfl⟩ rfl) ?_
    refine reg_quiet rfl (step_C tab_ok (fun K hk => hk)) ?_
    refine reg_quiet rfl (step_C tab_ok (fun K hk => hk)) ?_
    refine reg_skip rfl rfl (by assumption) rfl rfl ?_
    refine reg_skip rfl rfl (by assumption) rfl rfl ?_
    refine reg_skip rfl rfl (by assumption) rfl rfl ?_
    refine reg_skip rfl rfl (by assumption) rfl rfl ?_
    refine reg_skip rfl rfl (by assumption) rfl rfl ?_
    refine reg_quiet rfl (pick_T tab_ok rfl (by assumption) rfl) ?_
    refine reg_quiet rfl (step_C tab_ok (fun K hk => hk)) ?_
    refine reg_skip rfl rfl rfl rfl rfl ?_
    refine reg_skip rfl rfl rfl rfl rfl ?_
    refine reg_skip rfl rfl rfl rfl rfl ?_
    refine reg_skip rfl rfl rfl rfl rfl ?_
    refine reg_skip rfl rfl rfl rfl rfl ?_
    refine reg_skip rfl rfl rfl rfl rfl ?_
    refine reg_skip rfl rfl rfl rfl rfl ?_
    refine reg_quiet rfl (pick_T tab_ok rfl rfl rfl) ?_
    refine reg_nil ?_
    refine seq_n ?_
    refine wc_true rfl rfl ?_
    refine wc_seq ?_
    refine wc_region ?_
    refine reg_quiet rfl (step_C tab_ok (fun K hk => hk)) ?_
    refine reg_nil ?_
    refine seq_n ?_
    refine wc_ret ?_
    refine seq_r ?_
    exact ⟨trivial, [], .of rfl rfl rfl rfl rfl ⟨⟨_, rfl, AVLe.of_eq rfl⟩, rfl, trivial⟩ trivial⟩
  · refine wc_seq ?_
    refine wc_region ?_
    refine reg_new (step_C tab_ok (fun K hk => hk)) rfl ?_
    refine reg_new (step_C tab_ok (fun K hk => hk)) rfl ?_
    refine reg_quiet rfl (step_C tab_ok (fun K hk => hk)) ?_
    refine reg_nil ?_
    refine seq_n ?_
    refine wc_seq ?_
    refine wc_seq ?_
    refine wc_region ?_
    refine reg_quiet rfl (step_C tab_ok (fun K hk => hk)) ?_
    refine reg_quiet rfl (load_box tab_ok rfl rfl ⟨_, rfl, rfl⟩ rfl) ?_
    refine reg_quiet rfl (step_C tab_ok (fun K hk => hk)) ?_
    refine reg_quiet rfl (load_box tab_ok rfl rfl ⟨_, rfl, rfl⟩ rfl) ?_
    refine reg_quiet rfl (step_C tab_ok (fun K hk => hk)) ?_
    refine reg_quiet rfl (step_C tab_ok (fun K hk => hk)) ?_
    refine reg_skip rfl rfl (by assumption) rfl rfl ?_
    refine reg_skip rfl rfl (by assumption) rfl rfl ?_
    refine reg_skip rfl rfl (by assumption) rfl rfl ?_
    refine reg_skip rfl rfl (by assumption) rfl rfl ?_
    refine reg_skip rfl rfl (by assumption) rfl rfl ?_
    refine reg_quiet rfl (pick_T tab_ok rfl (by assumption) rfl) ?_
    refine reg_quiet rfl (step_C tab_ok (fun K hk => hk)) ?_
    refine reg_skip rfl rfl rfl rfl rfl ?_
    refine reg_skip rfl rfl rfl rfl rfl ?_
    refine reg_skip rfl rfl rfl rfl rfl ?_
    refine reg_skip rfl rfl rfl rfl rfl ?_
    refine reg_skip rfl rfl rfl rfl rfl ?_
    refine reg_skip rfl rfl rfl rfl rfl ?_
    refine reg_skip rfl rfl rfl rfl rfl ?_
    refine reg_quiet rfl (pick_T tab_ok rfl rfl rfl) ?_
    refine reg_nil ?_
    refine seq_n ?_
    refine wc_true rfl rfl ?_
    refine wc_seq ?_
    refine wc_region ?_
    refine reg_quiet rfl (step_C tab_ok (fun K hk => hk)) ?_
    refine reg_nil ?_
    refine seq_n ?_
    refine wc_ret ?_
    refine seq_r ?_
    exact ⟨trivial, [], .of rfl rfl rfl rfl rfl ⟨⟨_, rfl, AVLe.of_eq rfl⟩, rfl, trivial⟩ trivial⟩
  · refine wc_seq ?_
    refine wc_region ?_
    refine reg_new (step_C tab_ok (fun K hk => hk)) rfl ?_
    refine reg_new (step_C tab_ok (fun K hk => hk)) rfl ?_
    refine reg_quiet rfl (step_C tab_ok (fun K hk => hk)) ?_
    refine reg_nil ?_
    refine seq_n ?_
    refine wc_seq ?_
    refine wc_seq ?_
    refine wc_region ?_
    refine reg_quiet rfl (step_C tab_ok (fun K hk => hk)) ?_
    refine reg_quiet rfl (load_box tab_ok rfl rfl ⟨_, rfl, rfl⟩ rfl) ?_
    refine reg_quiet rfl (step_C tab_ok (fun K hk => hk)) ?_
    refine reg_quiet rfl (load_box tab_ok rfl rfl ⟨_, rfl, rfl⟩ rfl) ?_
    refine reg_quiet rfl (step_C tab_ok (fun K hk => hk)) ?_
    refine reg_quiet rfl (step_C tab_ok (fun K hk => hk)) ?_
    refine reg_on rfl rfl (by assumption) ?_
    refine reg_quiet rfl (step_C tab_ok (fun K hk => hk)) ?_
    refine reg_on rfl rfl (by assumption) ?_
    refine reg_quiet rfl (load_box tab_ok rfl rfl ⟨_, rfl, rfl⟩ rfl) ?_
    refine reg_on rfl rfl (by assumption) ?_
    refine reg_quiet rfl (step_C tab_ok (fun K hk => hk)) ?_
    refine reg_on rfl rfl (by assumption) ?_
    refine reg_quiet rfl (load_box tab_ok rfl rfl ⟨_, rfl, rfl⟩ rfl) ?_
    refine reg_on rfl rfl (by assumption) ?_
    refine reg_quiet rfl (step_C tab_ok (fun K hk => hk)) ?_
    refine reg_quiet rfl (pick_F tab_ok rfl (by assumption) rfl) ?_
    refine reg_quiet rfl (step_C tab_ok (fun K hk => hk)) ?_
    refine reg_skip rfl rfl (by assumption) rfl rfl ?_
    refine reg_skip rfl rfl (by assumption) rfl rfl ?_
    refine reg_skip rfl rfl (by assumption) rfl rfl ?_
    refine reg_skip rfl rfl (by assumption) rfl rfl ?_
    refine reg_skip rfl rfl (by assumption) rfl rfl ?_
    refine reg_skip rfl rfl (by assumption) rfl rfl ?_
    refine reg_skip rfl rfl (by assumption) rfl rfl ?_
    refine reg_quiet rfl (pick_T tab_ok rfl (by assumption) rfl) ?_
    refine reg_nil ?_
    refine seq_n ?_
    refine wc_true rfl rfl ?_
    refine wc_seq ?_
    refine wc_region ?_
    refine reg_quiet rfl (step_C tab_ok (fun K hk => hk)) ?_
    refine reg_nil ?_
    refine seq_n ?_
    refine wc_ret ?_
    refine seq_r ?_
    exact ⟨trivial, [], .of rfl rfl rfl rfl rfl ⟨⟨_, rfl, AVLe.of_eq rfl⟩, rfl, trivial⟩ trivial⟩
  · refine wc_seq ?_
    refine wc_region ?_
    refine reg_new (step_C tab_ok (fun K hk => hk)) rfl ?_
    refine reg_new (step_C tab_ok (fun K hk => hk)) rfl ?_
    refine reg_quiet rfl (step_C tab_ok (fun K hk => hk)) ?_
    refine reg_nil ?_
    refine seq_n ?_
    refine wc_seq ?_
    refine wc_seq ?_
    refine wc_region ?_
    refine reg_quiet rfl (step_C tab_ok (fun K hk => hk)) ?_
    refine reg_quiet rfl (load_box tab_ok rfl rfl ⟨_, rfl, rfl⟩ rfl) ?_
    refine reg_quiet rfl (step_C tab_ok (fun K hk => hk)) ?_
    refine reg_quiet rfl (load_box tab_ok rfl rfl ⟨_, rfl, rfl⟩ rfl) ?_
    refine reg_quiet rfl (step_C tab_ok (fun K hk => hk)) ?_
    refine reg_quiet rfl (step_C tab_ok (fun K hk => hk)) ?_
    refine reg_on rfl rfl (by assumption) ?_
    refine reg_quiet rfl (step_C tab_ok (fun K hk => hk)) ?_
    refine reg_on rfl rfl (by assumption) ?_
    refine reg_quiet rfl (load_box tab_ok rfl rfl ⟨_, rfl, rfl⟩ rfl) ?_
    refine reg_on rfl rfl (by assumption) ?_
    refine reg_quiet rfl (step_C tab_ok (fun K hk => hk)) ?_
    refine reg_on rfl rfl (by assumption) ?_
    refine reg_quiet rfl (load_box tab_ok rfl rfl ⟨_, rfl, rfl⟩ rfl) ?_
    refine reg_on rfl rfl (by assumption) ?_
    refine reg_quiet rfl (step_C tab_ok (fun K hk => hk)) ?_
    refine reg_quiet rfl (pick_F tab_ok rfl (by assumption) rfl) ?_
    refine reg_quiet rfl (step_C tab_ok (fun K hk => hk)) ?_
    refine reg_skip rfl rfl (by assumption) rfl rfl ?_
    refine reg_skip rfl rfl (by assumption) rfl rfl ?_
    refine reg_skip rfl rfl (by assumption) rfl rfl ?_
    refine reg_skip rfl rfl (by assumption) rfl rfl ?_
    refine reg_skip rfl rfl (by assumption) rfl rfl ?_
    refine reg_skip rfl rfl (by assumption) rfl rfl ?_
    refine reg_skip rfl rfl (by assumption) rfl rfl ?_
    refine reg_quiet rfl (pick_T tab_ok rfl (by assumption) rfl) ?_
    refine reg_nil ?_
    refine seq_n ?_
    refine wc_true rfl rfl ?_
    refine wc_seq ?_
    refine wc_region ?_
    refine reg_quiet rfl (step_C tab_ok (fun K hk => hk)) ?_
    refine reg_nil ?_
    refine seq_n ?_
    refine wc_ret ?_
    refine seq_r ?_
    exact ⟨trivial, [], .of rfl rfl rfl rfl rfl ⟨⟨_, rfl, AVLe.of_eq rfl⟩, rfl, trivial⟩ trivial⟩
  · refine wc_seq ?_
    refine wc_region ?_
    refine reg_new (step_C tab_ok (fun K hk => hk)) rfl ?_
    refine reg_new (step_C tab_ok (fun K hk => hk)) rfl ?_
    refine reg_quiet rfl (step_C tab_ok (fun K hk => hk)) ?_
    refine reg_nil ?_
    refine seq_n ?_
    refine wc_seq ?_
    refine wc_seq ?_
    refine wc_region ?_
    refine reg_quiet rfl (step_C tab_ok (fun K hk => hk)) ?_
    refine reg_quiet rfl (load_box tab_ok rfl rfl ⟨_, rfl, rfl⟩ rfl) ?_
    refine reg_quiet rfl (step_C tab_ok (fun K hk => hk)) ?_
    refine reg_quiet rfl (load_box tab_ok rfl rfl ⟨_, rfl, rfl⟩ rfl) ?_
    refine reg_quiet rfl (step_C tab_ok (fun K hk => hk)) ?_
    refine reg_quiet rfl (step_C tab_ok (fun K hk => hk)) ?_
    refine reg_on rfl rfl (by assumption) ?_
    refine reg_quiet rfl (step_C tab_ok (fun K hk => hk)) ?_
    refine reg_on rfl rfl (by assumption) ?_
    refine reg_quiet rfl (load_box tab_ok rfl rfl ⟨_, rfl, rfl⟩ rfl) ?_
    refine reg_on rfl rfl (by assumption) ?_
    refine reg_quiet rfl (step_C tab_ok (fun K hk => hk)) ?_
    refine reg_on rfl rfl (by assumption) ?_
    refine reg_quiet rfl (load_box tab_ok rfl rfl ⟨_, rfl, rfl⟩ rfl) ?_
    refine reg_on rfl rfl (by assumption) ?_
    refine reg_quiet rfl (step_C tab_ok (fun K hk => hk)) ?_
    refine reg_quiet rfl (pick_F tab_ok rfl (by assumption) rfl) ?_
    refine reg_quiet rfl (step_C tab_ok (fun K hk => hk)) ?_
    refine reg_on rfl rfl (by assumption) ?_
    refine reg_quiet rfl (step_C tab_ok (fun K hk => hk)) ?_
    refine reg_on rfl rfl (by assumption) ?_
    refine reg_quiet rfl (load_box tab_ok rfl rfl ⟨_, rfl, rfl⟩ rfl) ?_
    refine reg_on rfl rfl (by assumption) ?_
    refine reg_quiet rfl (conv_bytes tab_ok rfl rfl rfl rfl) ?_
    refine reg_on rfl rfl (by assumption) ?_
    refine reg_quiet rfl (step_C tab_ok (fun K hk => hk)) ?_
    refine reg_on rfl rfl (by assumption) ?_
    refine reg_quiet rfl (load_box tab_ok rfl rfl ⟨_, rfl, rfl⟩ rfl) ?_
    refine reg_on rfl rfl (by assumption) ?_
    refine reg_quiet rfl (conv_bytes tab_ok rfl rfl rfl rfl) ?_
    refine reg_on rfl rfl (by assumption) ?_
    refine reg_quiet rfl (neq_str tab_ok rfl rfl rfl) ?_
    refine reg_quiet rfl (pick_F tab_ok rfl (by assumption) rfl) ?_
    refine reg_nil ?_
    refine seq_n ?_
    refine wc_true rfl (by assumption) ?_
    refine wc_seq ?_
    refine wc_region ?_
    refine reg_quiet rfl (step_C tab_ok (fun K hk => hk)) ?_
    refine reg_nil ?_
    refine seq_n ?_
    refine wc_ret ?_
    refine seq_r ?_
    exact ⟨trivial, [], .of rfl rfl rfl rfl rfl ⟨⟨_, rfl, AVLe.of_eq rfl⟩, rfl, trivial⟩ trivial⟩
  · refine wc_seq ?_
    refine wc_region ?_
    refine reg_new (step_C tab_ok (fun K hk => hk)) rfl ?_
    refine reg_new (step_C tab_ok (fun K hk => hk)) rfl ?_
    refine reg_quiet rfl (step_C tab_ok (fun K hk => hk)) ?_
    refine reg_nil ?_
    refine seq_n ?_
    refine wc_seq ?_
    refine wc_seq ?_
    refine wc_region ?_
    refine reg_quiet rfl (step_C tab_ok (fun K hk => hk)) ?_
    refine reg_quiet rfl (load_box tab_ok rfl rfl ⟨_, rfl, rfl⟩ rfl) ?_
    refine reg_quiet rfl (step_C tab_ok (fun K hk => hk)) ?_
    refine reg_quiet rfl (load_box tab_ok rfl rfl ⟨_, rfl, rfl⟩ rfl) ?_
    refine reg_quiet rfl (step_C tab_ok (fun K hk => hk)) ?_
    refine reg_quiet rfl (step_C tab_ok (fun K hk => hk)) ?_
    refine reg_on rfl rfl (by assumption) ?_
    refine reg_quiet rfl (step_C tab_ok (fun K hk => hk)) ?_
    refine reg_on rfl rfl (by assumption) ?_
    refine reg_quiet rfl (load_box tab_ok rfl rfl ⟨_, rfl, rfl⟩ rfl) ?_
    refine reg_on rfl rfl (by assumption) ?_
    refine reg_quiet rfl (step_C tab_ok (fun K hk => hk)) ?_
    refine reg_on rfl rfl (by assumption) ?_
    refine reg_quiet rfl (load_box tab_ok rfl rfl ⟨_, rfl, rfl⟩ rfl) ?_
    refine reg_on rfl rfl (by assumption) ?_
    refine reg_quiet rfl (step_C tab_ok (fun K hk => hk)) ?_
    refine reg_quiet rfl (pick_F tab_ok rfl (by assumption) rfl) ?_
    refine reg_quiet rfl (step_C tab_ok (fun K hk => hk)) ?_
    refine reg_on rfl rfl (by assumption) ?_
    refine reg_quiet rfl (step_C tab_ok (fun K hk => hk)) ?_
    refine reg_on rfl rfl (by assumption) ?_
    refine reg_quiet rfl (load_box tab_ok rfl rfl ⟨_, rfl, rfl⟩ rfl) ?_
    refine reg_on rfl rfl (by assumption) ?_
    refine reg_quiet rfl (conv_bytes tab_ok rfl rfl rfl rfl) ?_
    refine reg_on rfl rfl (by assumption) ?_
    refine reg_quiet rfl (step_C tab_ok (fun K hk => hk)) ?_
    refine reg_on rfl rfl (by assumption) ?_
    refine reg_quiet rfl (load_box tab_ok rfl rfl ⟨_, rfl, rfl⟩ rfl) ?_
    refine reg_on rfl rfl (by assumption) ?_
    refine reg_quiet rfl (conv_bytes tab_ok rfl rfl rfl rfl) ?_
    refine reg_on rfl rfl (by assumption) ?_
    refine reg_quiet rfl (neq_str tab_ok rfl rfl rfl) ?_
    refine reg_quiet rfl (pick_F tab_ok rfl (by assumption) rfl) ?_
    refine reg_nil ?_
    refine seq_n ?_
    refine wc_false rfl (by assumption) ?_
    refine wc_skip ?_
    refine seq_n ?_
    refine wc_seq ?_
    refine wc_region ?_
    refine reg_quiet rfl (step_C tab_ok (fun K hk => hk)) ?_
    refine reg_nil ?_
    refine seq_n ?_
    refine wc_ret ?_
    exact ⟨trivial, [], .of rfl rfl rfl rfl rfl ⟨⟨_, rfl, AVLe.of_eq rfl⟩, rfl, trivial⟩ trivial⟩
theorem requal_is (x y : POp) : FnIs Tryz.prog 67 [.d (encPOp x), .d (encPOp y)] [] (.d (i6 (if x = y then 1 else 0))) [] := by
  have := requal_w x y (decide (x.kind = y.kind)) (decide (x.index = y.index)) (decide (x.data = y.data)) rfl rfl (by rw [str_dec])
  rw [← op_dec] at this
  simpa using this
theorem rsame_is (p q : List (List POp)) (hL : p.length ≤ 1000000000) (hP : ∀ x ∈ p, x.length ≤ 1000000000) : FnIs Tryz.prog 48 [.d (encPL p), .d (encPL q)] [] (.d (i6 (if p = q then 1 else 0))) [] := by
  refine fnIs_of tab_ok Tryz.func48 rfl rfl rfl ?_
  by_cases hlen : p.length = q.length
  · have hd : (!decide ((p.length : Int) = (q.length : Int))) = false := by rw [decide_eq_true (by omega)]; rfl
    refine wc_seq ?_
    refine wc_region ?_
    refine reg_quiet rfl (step_C tab_ok (fun K hk => hk)) ?_
    refine reg_nil ?_
    refine seq_n ?_
    refine wc_seq ?_
    refine wc_seq ?_
    refine wc_region ?_
    refine reg_quiet rfl (step_C tab_ok (fun K hk => hk)) ?_
    refine reg_quiet rfl (len_arr tab_ok rfl rfl) ?_
    refine reg_quiet rfl (step_C tab_ok (fun K hk => hk)) ?_
    refine reg_quiet rfl (len_arr tab_ok rfl rfl) ?_
    refine reg_quiet rfl (step_C tab_ok (fun K hk => hk)) ?_
    refine reg_nil ?_
    refine seq_n ?_
    refine wc_false rfl (by assumption) ?_
    refine wc_skip ?_
    refine seq_n ?_
    refine wc_seq ?_
    refine wc_seq ?_
    refine wc_region ?_
    refine reg_quiet rfl (step_C tab_ok (fun K hk => hk)) ?_
    refine reg_nil ?_
    refine seq_n ?_
    refine wc_block ?_
    refine wc_inv (fun i : Nat => ⟨[(5, .int .i64 i), (1, .d (encPL q)), (0, .d (encPL p))], [], 72, Tryz.f48.ntmps, 64⟩) (fun i => i ≤ p.length ∧ p.take i = q.take i) (fun i => p.length - i) 0 [] ⟨Nat.zero_le _, by simp⟩
      (.of rfl rfl rfl rfl rfl ⟨⟨_, rfl, .refl _⟩, rfl, ⟨_, rfl, .refl _⟩, rfl, ⟨_, rfl, .refl _⟩, rfl, trivial⟩ trivial) ?_
    intro i hi
    obtain ⟨hi, hsame⟩ := hi
    refine wc_of ?_
    refine wc_seq ?_
    refine wc_seq ?_
    refine wc_region ?_
    refine reg_quiet rfl (step_C tab_ok (fun K hk => hk)) ?_
    refine reg_quiet rfl (step_C tab_ok (fun K hk => hk)) ?_
    refine reg_quiet rfl (len_arr tab_ok rfl rfl) ?_
    refine reg_quiet rfl (step_C tab_ok (fun K hk => hk)) ?_
    refine reg_nil ?_
    refine seq_n ?_
    refine wc_cond rfl (fun h3 => ?_) (fun h3 => ?_)
    · have hlt : i < p.length := by have := of_decide_eq_true h3; omega
      obtain ⟨x, hx⟩ : ∃ x, p[i]? = some x := ⟨_, List.getElem?_eq_getElem hlt⟩
      obtain ⟨y, hy⟩ : ∃ y, q[i]? = some y := ⟨_, List.getElem?_eq_getElem (by omega)⟩
      have hx' : p[((i : Int)).toNat]? = some x := by rw [Int.toNat_natCast]; exact hx
      have hy' : q[((i : Int)).toNat]? = some y := by rw [Int.toNat_natCast]; exact hy
      have hxl := hP x (List.mem_of_getElem? hx)
      have hpq : p = q → x = y := fun e => by rw [e, hy] at hx; cases hx; rfl
      by_cases hl2 : x.length = y.length
      · have hd2 : (!decide ((x.length : Int) = (y.length : Int))) = false := by rw [decide_eq_true (by omega)]; rfl
        refine wc_skip ?_
        refine seq_n ?_
        refine wc_seq ?_
        refine wc_block ?_
        refine wc_seq ?_
        refine wc_seq ?_
        refine wc_draw (by kernel_rfl) ?_
        refine dreg_q [0] [] rfl (step_C tab_ok (fun K hk => hk)) ?_
        refine dreg_q [5] [] rfl (step_C tab_ok (fun K hk => hk)) ?_
        refine dreg_q [18, 19] [] rfl (index_arr tab_ok rfl rfl rfl rfl rfl (by omega) (by assumption)) ?_
        refine dreg_q [20] [] rfl (load_i tab_ok rfl rfl) ?_
        refine dreg_q [21] [] rfl (len_arr tab_ok rfl rfl) ?_
        refine dreg_q [1] [] rfl (step_C tab_ok (fun K hk => hk)) ?_
        refine dreg_q [5] [] rfl (step_C tab_ok (fun K hk => hk)) ?_
        refine dreg_q [23, 24] [] rfl (index_arr tab_ok rfl rfl rfl rfl rfl (by omega) (by assumption)) ?_
        refine dreg_q [25] [] rfl (load_i tab_ok rfl rfl) ?_
        refine dreg_q [26] [] rfl (len_arr tab_ok rfl rfl) ?_
        refine dreg_q [22, 27] [] rfl (step_C tab_ok (fun K hk => hk)) ?_
        refine dreg_end (by kernel_rfl) ?_
        refine seq_n ?_
        refine wc_false rfl (by assumption) ?_
        refine wc_skip ?_
        refine seq_n ?_
        refine wc_seq ?_
        refine wc_region ?_
        refine reg_quiet rfl (step_C tab_ok (fun K hk => hk)) ?_
        refine reg_nil ?_
        refine seq_n ?_
        refine wc_block ?_
        refine wc_inv (fun j : Nat => ⟨[(6, .int .i64 j), (5, .int .i64 i), (1, .d (encPL q)), (0, .d (encPL p))], [], 72, Tryz.f48.ntmps, 64⟩) (fun j => j ≤ x.length ∧ x.take j = y.take j) (fun j => x.length - j) 0 [] ⟨Nat.zero_le _, by simp⟩
          (.of rfl rfl rfl rfl rfl ⟨⟨_, rfl, .refl _⟩, rfl, ⟨_, rfl, .refl _⟩, rfl, ⟨_, rfl, .refl _⟩, rfl, ⟨_, rfl, .refl _⟩, rfl, trivial⟩ trivial) ?_
        intro j hj
        obtain ⟨hj, hsj⟩ := hj
        refine wc_of ?_
        refine wc_seq ?_
        refine wc_seq ?_
        refine wc_region ?_
        refine reg_quiet rfl (step_C tab_ok (fun K hk => hk)) ?_
        refine reg_quiet rfl (step_C tab_ok (fun K hk => hk)) ?_
        refine reg_quiet rfl (step_C tab_ok (fun K hk => hk)) ?_
        refine reg_quiet rfl (index_arr tab_ok rfl rfl rfl rfl rfl (by omega) (by assumption)) ?_
        refine reg_quiet rfl (load_i tab_ok rfl rfl) ?_
        refine reg_quiet rfl (len_arr tab_ok rfl rfl) ?_
        refine reg_quiet rfl (step_C tab_ok (fun K hk => hk)) ?_
        refine reg_nil ?_
        refine seq_n ?_
        refine wc_cond rfl (fun h4 => ?_) (fun h4 => ?_)
        · have hjl : j < x.length := by have := of_decide_eq_true h4; omega
          obtain ⟨o, ho⟩ : ∃ o, x[j]? = some o := ⟨_, List.getElem?_eq_getElem hjl⟩
          obtain ⟨u, hu⟩ : ∃ u, y[j]? = some u := ⟨_, List.getElem?_eq_getElem (by omega)⟩
          have ho' : x[((j : Int)).toNat]? = some o := by rw [Int.toNat_natCast]; exact ho
          have hu' : y[((j : Int)).toNat]? = some u := by rw [Int.toNat_natCast]; exact hu
          have hreq := requal_is o u
          by_cases he : o = u
          · rw [if_pos he] at hreq
            refine wc_skip ?_
            refine seq_n ?_
            refine wc_seq ?_
            refine wc_block ?_
            refine wc_seq ?_
            refine wc_draw (by kernel_rfl) ?_
            refine dreg_q [0] [] rfl (step_C tab_ok (fun K hk => hk)) ?_
            refine dreg_q [5] [] rfl (step_C tab_ok (fun K hk => hk)) ?_
            refine dreg_q [38, 39] [] rfl (index_arr tab_ok rfl rfl rfl rfl rfl (by omega) (by assumption)) ?_
            refine dreg_q [40] [] rfl (load_i tab_ok rfl rfl) ?_
            refine dreg_q [6] [] rfl (step_C tab_ok (fun K hk => hk)) ?_
            refine dreg_q [41, 42] [] rfl (index_arr tab_ok rfl rfl rfl rfl rfl (by omega) (by assumption)) ?_
            refine dreg_q [43] [] rfl (load_i tab_ok rfl rfl) ?_
            refine dreg_q [1] [] rfl (step_C tab_ok (fun K hk => hk)) ?_
            refine dreg_q [5] [] rfl (step_C tab_ok (fun K hk => hk)) ?_
            refine dreg_q [45, 46] [] rfl (index_arr tab_ok rfl rfl rfl rfl rfl (by omega) (by assumption)) ?_
            refine dreg_q [47] [] rfl (load_i tab_ok rfl rfl) ?_
            refine dreg_q [6] [] rfl (step_C tab_ok (fun K hk => hk)) ?_
            refine dreg_q [48, 49] [] rfl (index_arr tab_ok rfl rfl rfl rfl rfl (by omega) (by assumption)) ?_
            refine dreg_q [50] [] rfl (load_i tab_ok rfl rfl) ?_
            refine dreg_q [44, 51] [] rfl (call_r hreq rfl rfl (arg_e (arg_e arg_nil)) (.inl rfl) (fun _ => rfl)) ?_
            refine dreg_q [52] [] rfl (step_C tab_ok (fun K hk => hk)) ?_
            refine dreg_end (by kernel_rfl) ?_
            refine seq_n ?_
            refine wc_false rfl rfl ?_
            refine wc_skip ?_
            refine blk_n ?_
            refine seq_n ?_
            refine wc_region ?_
            refine reg_quiet rfl (step_C tab_ok (fun K hk => hk)) ?_
            refine reg_quiet rfl (add_int tab_ok rfl rfl (wrap_i64 (by omega) (by omega))) ?_
            refine reg_quiet rfl (step_C tab_ok (fun K hk => hk)) ?_
            refine reg_nil ?_
            exact loop_n (j + 1) [] ⟨hjl, by rw [List.take_add_one, List.take_add_one, ho, hu, hsj, he]⟩ (by omega) (.of rfl rfl rfl rfl rfl ⟨⟨_, rfl, .refl _⟩, rfl, ⟨_, rfl, .refl _⟩, rfl, ⟨_, rfl, .refl _⟩, rfl, ⟨_, rfl, .refl _⟩, rfl, trivial⟩ trivial)
          · rw [if_neg he] at hreq
            rw [if_neg (fun e => he (by have e2 := hpq e; rw [e2, hu] at ho; cases ho; rfl))]
            refine wc_skip ?_
            refine seq_n ?_
            refine wc_seq ?_
            refine wc_block ?_
            refine wc_seq ?_
            refine wc_draw (by kernel_rfl) ?_
            refine dreg_q [0] [] rfl (step_C tab_ok (fun K hk => hk)) ?_
            refine dreg_q [5] [] rfl (step_C tab_ok (fun K hk => hk)) ?_
            refine dreg_q [38, 39] [] rfl (index_arr tab_ok rfl rfl rfl rfl rfl (by omega) (by assumption)) ?_
            refine dreg_q [40] [] rfl (load_i tab_ok rfl rfl) ?_
            refine dreg_q [6] [] rfl (step_C tab_ok (fun K hk => hk)) ?_
            refine dreg_q [41, 42] [] rfl (index_arr tab_ok rfl rfl rfl rfl rfl (by omega) (by assumption)) ?_
            refine dreg_q [43] [] rfl (load_i tab_ok rfl rfl) ?_
            refine dreg_q [1] [] rfl (step_C tab_ok (fun K hk => hk)) ?_
            refine dreg_q [5] [] rfl (step_C tab_ok (fun K hk => hk)) ?_
            refine dreg_q [45, 46] [] rfl (index_arr tab_ok rfl rfl rfl rfl rfl (by omega) (by assumption)) ?_
            refine dreg_q [47] [] rfl (load_i tab_ok rfl rfl) ?_
            refine dreg_q [6] [] rfl (step_C tab_ok (fun K hk => hk)) ?_
            refine dreg_q [48, 49] [] rfl (index_arr tab_ok rfl rfl rfl rfl rfl (by omega) (by assumption)) ?_
            refine dreg_q [50] [] rfl (load_i tab_ok rfl rfl) ?_
            refine dreg_q [44, 51] [] rfl (call_r hreq rfl rfl (arg_e (arg_e arg_nil)) (.inl rfl) (fun _ => rfl)) ?_
            refine dreg_q [52] [] rfl (step_C tab_ok (fun K hk => hk)) ?_
            refine dreg_end (by kernel_rfl) ?_
            refine seq_n ?_
            refine wc_true rfl rfl ?_
            refine wc_seq ?_
            refine wc_region ?_
            refine reg_quiet rfl (step_C tab_ok (fun K hk => hk)) ?_
            refine reg_nil ?_
            refine seq_n ?_
            refine wc_ret ?_
            refine blk_r ?_
            refine seq_r ?_
            refine loop_r ?_
            refine blk_r ?_
            refine blk_r ?_
            refine seq_r ?_
            refine loop_r ?_
            refine blk_r ?_
            refine seq_r ?_
            exact ⟨trivial, [], .of rfl rfl rfl rfl rfl ⟨⟨_, rfl, AVLe.of_eq rfl⟩, rfl, trivial⟩ trivial⟩
        · have he : j = x.length := by have := of_decide_eq_false h4; omega
          subst he
          have hxy : x = y := by rw [List.take_length] at hsj; rw [hsj, hl2, List.take_length]
          refine wc_exit ?_
          refine seq_x ?_
          refine loop_x ?_
          refine blk_x ?_
          refine blk_n ?_
          refine seq_n ?_
          refine wc_region ?_
          refine reg_quiet rfl (step_C tab_ok (fun K hk => hk)) ?_
          refine reg_quiet rfl (add_int tab_ok rfl rfl (wrap_i64 (by omega) (by omega))) ?_
          refine reg_quiet rfl (step_C tab_ok (fun K hk => hk)) ?_
          refine reg_nil ?_
          exact loop_n (i + 1) [] ⟨hlt, by rw [List.take_add_one, List.take_add_one, hx, hy, hsame, hxy]⟩ (by omega) (.of rfl rfl rfl rfl rfl ⟨⟨_, rfl, .refl _⟩, rfl, ⟨_, rfl, .refl _⟩, rfl, ⟨_, rfl, .refl _⟩, rfl, trivial⟩ trivial)
      · have hd2 : (!decide ((x.length : Int) = (y.length : Int))) = true := by rw [decide_eq_false (by omega)]; rfl
        rw [if_neg (fun e => hl2 (by rw [hpq e]))]
        refine wc_skip ?_
        refine seq_n ?_
        refine wc_seq ?_
        refine wc_block ?_
        refine wc_seq ?_
        refine wc_seq ?_
        refine wc_draw (by kernel_rfl) ?_
        refine dreg_q [0] [] rfl (step_C tab_ok (fun K hk => hk)) ?_
        refine dreg_q [5] [] rfl (step_C tab_ok (fun K hk => hk)) ?_
        refine dreg_q [18, 19] [] rfl (index_arr tab_ok rfl rfl rfl rfl rfl (by omega) (by assumption)) ?_
        refine dreg_q [20] [] rfl (load_i tab_ok rfl rfl) ?_
        refine dreg_q [21] [] rfl (len_arr tab_ok rfl rfl) ?_
        refine dreg_q [1] [] rfl (step_C tab_ok (fun K hk => hk)) ?_
        refine dreg_q [5] [] rfl (step_C tab_ok (fun K hk => hk)) ?_
        refine dreg_q [23, 24] [] rfl (index_arr tab_ok rfl rfl rfl rfl rfl (by omega) (by assumption)) ?_
        refine dreg_q [25] [] rfl (load_i tab_ok rfl rfl) ?_
        refine dreg_q [26] [] rfl (len_arr tab_ok rfl rfl) ?_
        refine dreg_q [22, 27] [] rfl (step_C tab_ok (fun K hk => hk)) ?_
        refine dreg_end (by kernel_rfl) ?_
        refine seq_n ?_
        refine wc_true rfl (by assumption) ?_
        refine wc_seq ?_
        refine wc_region ?_
        refine reg_quiet rfl (step_C tab_ok (fun K hk => hk)) ?_
        refine reg_nil ?_
        refine seq_n ?_
        refine wc_ret ?_
        refine seq_r ?_
        refine blk_r ?_
        refine seq_r ?_
        refine loop_r ?_
        refine blk_r ?_
        refine seq_r ?_
        exact ⟨trivial, [], .of rfl rfl rfl rfl rfl ⟨⟨_, rfl, AVLe.of_eq rfl⟩, rfl, trivial⟩ trivial⟩
    · have he : i = p.length := by have := of_decide_eq_false h3; omega
      subst he
      have hpq : p = q := by rw [List.take_length] at hsame; rw [hsame, hlen, List.take_length]
      rw [if_pos hpq]
      refine wc_exit ?_
      refine seq_x ?_
      refine loop_x ?_
      refine blk_x ?_
      refine seq_n ?_
      refine wc_seq ?_
      refine wc_region ?_
      refine reg_quiet rfl (step_C tab_ok (fun K hk => hk)) ?_
      refine reg_nil ?_
      refine seq_n ?_
      refine wc_ret ?_
      exact ⟨trivial, [], .of rfl rfl rfl rfl rfl ⟨⟨_, rfl, AVLe.of_eq rfl⟩, rfl, trivial⟩ trivial⟩
  · have hd : (!decide ((p.length : Int) = (q.length : Int))) = true := by rw [decide_eq_false (by omega)]; rfl
    rw [if_neg (fun e => hlen (by rw [e]))]
    refine wc_seq ?_
    refine wc_region ?_
    refine reg_quiet rfl (step_C tab_ok (fun K hk => hk)) ?_
    refine reg_nil ?_
    refine seq_n ?_
    refine wc_seq ?_
    refine wc_seq ?_
    refine wc_region ?_
    refine reg_quiet rfl (step_C tab_ok (fun K hk => hk)) ?_
    refine reg_quiet rfl (len_arr tab_ok rfl rfl) ?_
    refine reg_quiet rfl (step_C tab_ok (fun K hk => hk)) ?_
    refine reg_quiet rfl (len_arr tab_ok rfl rfl) ?_
    refine reg_quiet rfl (step_C tab_ok (fun K hk => hk)) ?_
    refine reg_nil ?_
    refine seq_n ?_
    refine wc_true rfl (by assumption) ?_
    refine wc_seq ?_
    refine wc_region ?_
    refine reg_quiet rfl (step_C tab_ok (fun K hk => hk)) ?_
    refine reg_nil ?_
    refine seq_n ?_
    refine wc_ret ?_
    refine seq_r ?_
    exact ⟨trivial, [], .of rfl rfl rfl rfl rfl ⟨⟨_, rfl, AVLe.of_eq rfl⟩, rfl, trivial⟩ trivial⟩
end Go.Proofs.YtmojbghcngdkpaaGreatDoor

namespace Go.Proofs.YtmojbghcngdkpaaGreatDoor
open Go.Eng Go.Plain
set_option maxHeartbeats 4000000
set_option maxRecDepth 20000
attribute [local irreducible] WC RegS RegD SeqQ BlkQ ScoQ RegK CutK Sat SatN FnIs LoopQ StepIs OpIs
end Go.Proofs.YtmojbghcngdkpaaGreatDoor

namespace Go.Proofs.YtmojbghcngdkpaaGreatDoor
open Go.Eng Go.Plain
set_option maxHeartbeats 4000000
set_option maxRecDepth 20000
attribute [local irreducible] WC RegS RegD SeqQ BlkQ ScoQ RegK CutK Sat SatN FnIs LoopQ StepIs OpIs
/-- Within the bounds of the statements. -/
def SmallL (l : List (List POp)) : Prop := l.length ≤ 12 ∧ l.flatten.length ≤ 200 ∧ ∀ p ∈ l, p.length ≤ 66 ∧ ∀ o ∈ p, o.data.length ≤ 70
def smallB (l : List (List POp)) : Bool := decide (l.length ≤ 12) && decide (l.flatten.length ≤ 200) && l.all fun p => decide (p.length ≤ 66) && p.all fun o => decide (o.data.length ≤ 70)
theorem small_iff (l : List (List POp)) : smallB l = true ↔ SmallL l := by
  simp only [smallB, SmallL, Bool.and_eq_true, decide_eq_true_eq, List.all_eq_true, and_assoc]
theorem small_no {l : List (List POp)} (h : ¬ SmallL l) : smallB l = false := by
  cases hb : smallB l with
  | false => rfl
  | true => exact absurd ((small_iff l).1 hb) h
theorem flat_mem_le {l : List (List POp)} {i : Nat} {p : List POp} (hp : l[i]? = some p) : (l.take i).flatten.length + p.length ≤ l.flatten.length := by
  have h1 := take_flat_le l (i + 1)
  rw [← preO_end hp, preO, List.take_length, List.length_append] at h1
  exact h1
theorem small_is (l : List (List POp)) : FnIs Tryz.prog 34 [.d (encPL l)] [] (.d (i6 (if smallB l = true then 1 else 0))) [] := by
  refine fnIs_of tab_ok Tryz.func34 rfl rfl rfl ?_
  by_cases h8 : 12 < l.length
  · have hd : decide (12 < (l.length : Int)) = true := decide_eq_true (by omega)
    rw [small_no (fun h => by have := h.1; omega)]
    refine wc_seq ?_
    refine wc_region ?_
    refine reg_quiet rfl (step_C tab_ok (fun K hk => hk)) ?_
    refine reg_nil ?_
    refine seq_n ?_
    refine wc_seq ?_
    refine wc_region ?_
    refine reg_quiet rfl (step_C tab_ok (fun K hk => hk)) ?_
    refine reg_nil ?_
    refine seq_n ?_
    refine wc_seq ?_
    refine wc_seq ?_
    refine wc_region ?_
    refine reg_quiet rfl (step_C tab_ok (fun K hk => hk)) ?_
    refine reg_quiet rfl (len_arr tab_ok rfl rfl) ?_
    refine reg_quiet rfl (step_C tab_ok (fun K hk => hk)) ?_
    refine reg_nil ?_
    refine seq_n ?_
    refine wc_true rfl (by assumption) ?_
    refine wc_seq ?_
    refine wc_region ?_
    refine reg_quiet rfl (step_C tab_ok (fun K hk => hk)) ?_
    refine reg_nil ?_
    refine seq_n ?_
    refine wc_ret ?_
    refine seq_r ?_
    exact ⟨trivial, [], .of rfl rfl rfl rfl rfl ⟨⟨_, rfl, AVLe.of_eq rfl⟩, rfl, trivial⟩ trivial⟩
  have hd : decide (12 < (l.length : Int)) = false := decide_eq_false (by omega)
  refine wc_seq ?_
  refine wc_region ?_
  refine reg_quiet rfl (step_C tab_ok (fun K hk => hk)) ?_
  refine reg_nil ?_
  refine seq_n ?_
  refine wc_seq ?_
  refine wc_region ?_
  refine reg_quiet rfl (step_C tab_ok (fun K hk => hk)) ?_
  refine reg_nil ?_
  refine seq_n ?_
  refine wc_seq ?_
  refine wc_seq ?_
  refine wc_region ?_
  refine reg_quiet rfl (step_C tab_ok (fun K hk => hk)) ?_
  refine reg_quiet rfl (len_arr tab_ok rfl rfl) ?_
  refine reg_quiet rfl (step_C tab_ok (fun K hk => hk)) ?_
  refine reg_nil ?_
  refine seq_n ?_
  refine wc_false rfl (by assumption) ?_
  refine wc_skip ?_
  refine seq_n ?_
  refine wc_seq ?_
  refine wc_seq ?_
  refine wc_region ?_
  refine reg_quiet rfl (step_C tab_ok (fun K hk => hk)) ?_
  refine reg_nil ?_
  refine seq_n ?_
  refine wc_block ?_
  refine wc_inv (fun i : Nat => ⟨[(4, .int .i64 i), (3, .int .i64 (l.take i).flatten.length), (0, .d (encPL l))], [], 72, Tryz.f34.ntmps, 64⟩) (fun i => i ≤ l.length ∧ (l.take i).flatten.length ≤ 200 ∧ ∀ p ∈ l.take i, p.length ≤ 66 ∧ ∀ o ∈ p, o.data.length ≤ 70) (fun i => l.length - i) 0 [] ⟨Nat.zero_le _, by simp, by simp⟩
    (.of rfl rfl rfl rfl rfl ⟨⟨_, rfl, .refl _⟩, rfl, ⟨_, rfl, .refl _⟩, rfl, ⟨_, rfl, .refl _⟩, rfl, trivial⟩ trivial) ?_
  intro i hi
  obtain ⟨hi, hfl, hgood⟩ := hi
  refine wc_of ?_
  refine wc_seq ?_
  refine wc_seq ?_
  refine wc_region ?_
  refine reg_quiet rfl (step_C tab_ok (fun K hk => hk)) ?_
  refine reg_quiet rfl (step_C tab_ok (fun K hk => hk)) ?_
  refine reg_quiet rfl (len_arr tab_ok rfl rfl) ?_
  refine reg_quiet rfl (step_C tab_ok (fun K hk => hk)) ?_
  refine reg_nil ?_
  refine seq_n ?_
  refine wc_cond rfl (fun h3 => ?_) (fun h3 => ?_)
  · have hlt : i < l.length := by have := of_decide_eq_true h3; omega
    obtain ⟨p, hp⟩ : ∃ p, l[i]? = some p := ⟨_, List.getElem?_eq_getElem hlt⟩
    have hp' : l[((i : Int)).toNat]? = some p := by rw [Int.toNat_natCast]; exact hp
    have hpm := List.mem_of_getElem? hp
    have hfm := flat_mem_le hp
    by_cases h64 : 66 < p.length
    · have hd2 : decide (66 < (p.length : Int)) = true := decide_eq_true (by omega)
      rw [small_no (fun h => by have := (h.2.2 p hpm).1; omega)]
      refine wc_skip ?_
      refine seq_n ?_
      refine wc_seq ?_
      refine wc_block ?_
      refine wc_seq ?_
      refine wc_region ?_
      refine reg_quiet rfl (step_C tab_ok (fun K hk => hk)) ?_
      refine reg_quiet rfl (step_C tab_ok (fun K hk => hk)) ?_
      refine reg_quiet rfl (step_C tab_ok (fun K hk => hk)) ?_
      refine reg_quiet rfl (index_arr tab_ok rfl rfl rfl rfl rfl (by omega) (by assumption)) ?_
      refine reg_quiet rfl (load_i tab_ok rfl rfl) ?_
      refine reg_quiet rfl (len_arr tab_ok rfl rfl) ?_
      refine reg_quiet rfl (add_int (m := IntKind.i64.wrap ((((l.take i).flatten.length : Nat) : Int) + (p.length : Int))) tab_ok rfl rfl rfl) ?_
      refine reg_quiet rfl (step_C tab_ok (fun K hk => hk)) ?_
      refine reg_nil ?_
      refine seq_n ?_
      refine wc_seq ?_
      refine wc_seq ?_
      refine wc_region ?_
      refine reg_quiet rfl (step_C tab_ok (fun K hk => hk)) ?_
      refine reg_quiet rfl (step_C tab_ok (fun K hk => hk)) ?_
      refine reg_quiet rfl (index_arr tab_ok rfl rfl rfl rfl rfl (by omega) (by assumption)) ?_
      refine reg_quiet rfl (load_i tab_ok rfl rfl) ?_
      refine reg_quiet rfl (len_arr tab_ok rfl rfl) ?_
      refine reg_quiet rfl (step_C tab_ok (fun K hk => hk)) ?_
      refine reg_quiet rfl (step_C tab_ok (fun K hk => hk)) ?_
      refine reg_skip rfl rfl (by assumption) rfl rfl ?_
      refine reg_skip rfl rfl (by assumption) rfl rfl ?_
      refine reg_quiet rfl (pick_T tab_ok rfl (by assumption) rfl) ?_
      refine reg_nil ?_
      refine seq_n ?_
      refine wc_true rfl rfl ?_
      refine wc_seq ?_
      refine wc_region ?_
      refine reg_quiet rfl (step_C tab_ok (fun K hk => hk)) ?_
      refine reg_nil ?_
      refine seq_n ?_
      refine wc_ret ?_
      refine seq_r ?_
      refine blk_r ?_
      refine seq_r ?_
      refine loop_r ?_
      refine blk_r ?_
      refine seq_r ?_
      exact ⟨trivial, [], .of rfl rfl rfl rfl rfl ⟨⟨_, rfl, AVLe.of_eq rfl⟩, rfl, trivial⟩ trivial⟩
    have hd2 : decide (66 < (p.length : Int)) = false := decide_eq_false (by omega)
    have hfn : (l.take (i + 1)).flatten.length = (l.take i).flatten.length + p.length := by rw [← preO_end hp, preO, List.take_length, List.length_append]
    have hw : IntKind.i64.wrap ((((l.take i).flatten.length : Nat) : Int) + (p.length : Int)) = (((l.take (i + 1)).flatten.length : Nat) : Int) := by rw [hfn, wrap_i64 (by omega) (by omega)]; omega
    by_cases h200 : 200 < (l.take (i + 1)).flatten.length
    · have hd4 : decide (200 < IntKind.i64.wrap ((((l.take i).flatten.length : Nat) : Int) + (p.length : Int))) = true := by rw [hw]; exact decide_eq_true (by omega)
      rw [small_no (fun h => by have := h.2.1; omega)]
      refine wc_skip ?_
      refine seq_n ?_
      refine wc_seq ?_
      refine wc_block ?_
      refine wc_seq ?_
      refine wc_region ?_
      refine reg_quiet rfl (step_C tab_ok (fun K hk => hk)) ?_
      refine reg_quiet rfl (step_C tab_ok (fun K hk => hk)) ?_
      refine reg_quiet rfl (step_C tab_ok (fun K hk => hk)) ?_
      refine reg_quiet rfl (index_arr tab_ok rfl rfl rfl rfl rfl (by omega) (by assumption)) ?_
      refine reg_quiet rfl (load_i tab_ok rfl rfl) ?_
      refine reg_quiet rfl (len_arr tab_ok rfl rfl) ?_
      refine reg_quiet rfl (add_int (m := IntKind.i64.wrap ((((l.take i).flatten.length : Nat) : Int) + (p.length : Int))) tab_ok rfl rfl rfl) ?_
      refine reg_quiet rfl (step_C tab_ok (fun K hk => hk)) ?_
      refine reg_nil ?_
      refine seq_n ?_
      refine wc_seq ?_
      refine wc_seq ?_
      refine wc_region ?_
      refine reg_quiet rfl (step_C tab_ok (fun K hk => hk)) ?_
      refine reg_quiet rfl (step_C tab_ok (fun K hk => hk)) ?_
      refine reg_quiet rfl (index_arr tab_ok rfl rfl rfl rfl rfl (by omega) (by assumption)) ?_
      refine reg_quiet rfl (load_i tab_ok rfl rfl) ?_
      refine reg_quiet rfl (len_arr tab_ok rfl rfl) ?_
      refine reg_quiet rfl (step_C tab_ok (fun K hk => hk)) ?_
      refine reg_quiet rfl (step_C tab_ok (fun K hk => hk)) ?_
      refine reg_on rfl rfl (by assumption) ?_
      refine reg_quiet rfl (step_C tab_ok (fun K hk => hk)) ?_
      refine reg_on rfl rfl (by assumption) ?_
      refine reg_quiet rfl (step_C tab_ok (fun K hk => hk)) ?_
      refine reg_quiet rfl (pick_F tab_ok rfl (by assumption) rfl) ?_
      refine reg_nil ?_
      refine seq_n ?_
      refine wc_true rfl (by assumption) ?_
      refine wc_seq ?_
      refine wc_region ?_
      refine reg_quiet rfl (step_C tab_ok (fun K hk => hk)) ?_
      refine reg_nil ?_
      refine seq_n ?_
      refine wc_ret ?_
      refine seq_r ?_
      refine blk_r ?_
      refine seq_r ?_
      refine loop_r ?_
      refine blk_r ?_
      refine seq_r ?_
      exact ⟨trivial, [], .of rfl rfl rfl rfl rfl ⟨⟨_, rfl, AVLe.of_eq rfl⟩, rfl, trivial⟩ trivial⟩
    have hd4 : decide (200 < IntKind.i64.wrap ((((l.take i).flatten.length : Nat) : Int) + (p.length : Int))) = false := by rw [hw]; exact decide_eq_false (by omega)
    refine wc_skip ?_
    refine seq_n ?_
    refine wc_seq ?_
    refine wc_block ?_
    refine wc_seq ?_
    refine wc_region ?_
    refine reg_quiet rfl (step_C tab_ok (fun K hk => hk)) ?_
    refine reg_quiet rfl (step_C tab_ok (fun K hk => hk)) ?_
    refine reg_quiet rfl (step_C tab_ok (fun K hk => hk)) ?_
    refine reg_quiet rfl (index_arr tab_ok rfl rfl rfl rfl rfl (by omega) (by assumption)) ?_
    refine reg_quiet rfl (load_i tab_ok rfl rfl) ?_
    refine reg_quiet rfl (len_arr tab_ok rfl rfl) ?_
    refine reg_quiet rfl (add_int (m := IntKind.i64.wrap ((((l.take i).flatten.length : Nat) : Int) + (p.length : Int))) tab_ok rfl rfl rfl) ?_
    refine reg_quiet rfl (step_C tab_ok (fun K hk => hk)) ?_
    refine reg_nil ?_
    refine seq_n ?_
    refine wc_seq ?_
    refine wc_seq ?_
    refine wc_region ?_
    refine reg_quiet rfl (step_C tab_ok (fun K hk => hk)) ?_
    refine reg_quiet rfl (step_C tab_ok (fun K hk => hk)) ?_
    refine reg_quiet rfl (index_arr tab_ok rfl rfl rfl rfl rfl (by omega) (by assumption)) ?_
    refine reg_quiet rfl (load_i tab_ok rfl rfl) ?_
    refine reg_quiet rfl (len_arr tab_ok rfl rfl) ?_
    refine reg_quiet rfl (step_C tab_ok (fun K hk => hk)) ?_
    refine reg_quiet rfl (step_C tab_ok (fun K hk => hk)) ?_
    refine reg_on rfl rfl (by assumption) ?_
    refine reg_quiet rfl (step_C tab_ok (fun K hk => hk)) ?_
    refine reg_on rfl rfl (by assumption) ?_
    refine reg_quiet rfl (step_C tab_ok (fun K hk => hk)) ?_
    refine reg_quiet rfl (pick_F tab_ok rfl (by assumption) rfl) ?_
    refine reg_nil ?_
    refine seq_n ?_
    refine wc_false rfl (by assumption) ?_
    refine wc_skip ?_
    refine seq_n ?_
    refine wc_seq ?_
    refine wc_region ?_
    refine reg_quiet rfl (step_C tab_ok (fun K hk => hk)) ?_
    refine reg_nil ?_
    refine seq_n ?_
    refine wc_block ?_
    rw [hw]
    refine wc_inv (fun j : Nat => ⟨[(5, .int .i64 j), (4, .int .i64 i), (3, .int .i64 (l.take (i + 1)).flatten.length), (0, .d (encPL l))], [], 72, Tryz.f34.ntmps, 64⟩) (fun j => j ≤ p.length ∧ ∀ o ∈ p.take j, o.data.length ≤ 70) (fun j => p.length - j) 0 [] ⟨Nat.zero_le _, by simp⟩
      (.of rfl rfl rfl rfl rfl ⟨⟨_, rfl, .refl _⟩, rfl, ⟨_, rfl, .refl _⟩, rfl, ⟨_, rfl, .refl _⟩, rfl, ⟨_, rfl, .refl _⟩, rfl, trivial⟩ trivial) ?_
    intro j hj
    obtain ⟨hj, hdat⟩ := hj
    refine wc_of ?_
    refine wc_seq ?_
    refine wc_seq ?_
    refine wc_region ?_
    refine reg_quiet rfl (step_C tab_ok (fun K hk => hk)) ?_
    refine reg_quiet rfl (step_C tab_ok (fun K hk => hk)) ?_
    refine reg_quiet rfl (step_C tab_ok (fun K hk => hk)) ?_
    refine reg_quiet rfl (index_arr tab_ok rfl rfl rfl rfl rfl (by omega) (by assumption)) ?_
    refine reg_quiet rfl (load_i tab_ok rfl rfl) ?_
    refine reg_quiet rfl (len_arr tab_ok rfl rfl) ?_
    refine reg_quiet rfl (step_C tab_ok (fun K hk => hk)) ?_
    refine reg_nil ?_
    refine seq_n ?_
    refine wc_cond rfl (fun h4 => ?_) (fun h4 => ?_)
    · have hjl : j < p.length := by have := of_decide_eq_true h4; omega
      obtain ⟨o, ho⟩ : ∃ o, p[j]? = some o := ⟨_, List.getElem?_eq_getElem hjl⟩
      have ho' : p[((j : Int)).toNat]? = some o := by rw [Int.toNat_natCast]; exact ho
      have hbl : (byI o.data).length = o.data.length := byI_len _
      by_cases hbig : 70 < o.data.length
      · have hd3 : decide (70 < ((byI o.data).length : Int)) = true := decide_eq_true (by omega)
        rw [small_no (fun h => by have := (h.2.2 p hpm).2 o (List.mem_of_getElem? ho); omega)]
        refine wc_skip ?_
        refine seq_n ?_
        refine wc_seq ?_
        refine wc_block ?_
        refine wc_seq ?_
        refine wc_region ?_
        refine reg_quiet rfl (step_C tab_ok (fun K hk => hk)) ?_
        refine reg_quiet rfl (step_C tab_ok (fun K hk => hk)) ?_
        refine reg_quiet rfl (index_arr tab_ok rfl rfl rfl rfl rfl (by omega) (by assumption)) ?_
        refine reg_quiet rfl (load_i tab_ok rfl rfl) ?_
        refine reg_quiet rfl (step_C tab_ok (fun K hk => hk)) ?_
        refine reg_quiet rfl (index_arr tab_ok rfl rfl rfl rfl rfl (by omega) (by assumption)) ?_
        refine reg_quiet rfl (step_C tab_ok (fun K hk => hk)) ?_
        refine reg_quiet rfl (load_i tab_ok rfl rfl) ?_
        refine reg_quiet rfl (len_arr tab_ok rfl rfl) ?_
        refine reg_quiet rfl (step_C tab_ok (fun K hk => hk)) ?_
        refine reg_nil ?_
        refine seq_n ?_
        refine wc_true rfl (by assumption) ?_
        refine wc_seq ?_
        refine wc_region ?_
        refine reg_quiet rfl (step_C tab_ok (fun K hk => hk)) ?_
        refine reg_nil ?_
        refine seq_n ?_
        refine wc_ret ?_
        refine blk_r ?_
        refine seq_r ?_
        refine loop_r ?_
        refine blk_r ?_
        refine blk_r ?_
        refine seq_r ?_
        refine loop_r ?_
        refine blk_r ?_
        refine seq_r ?_
        exact ⟨trivial, [], .of rfl rfl rfl rfl rfl ⟨⟨_, rfl, AVLe.of_eq rfl⟩, rfl, trivial⟩ trivial⟩
      · have hd3 : decide (70 < ((byI o.data).length : Int)) = false := decide_eq_false (by omega)
        refine wc_skip ?_
        refine seq_n ?_
        refine wc_seq ?_
        refine wc_block ?_
        refine wc_seq ?_
        refine wc_region ?_
        refine reg_quiet rfl (step_C tab_ok (fun K hk => hk)) ?_
        refine reg_quiet rfl (step_C tab_ok (fun K hk => hk)) ?_
        refine reg_quiet rfl (index_arr tab_ok rfl rfl rfl rfl rfl (by omega) (by assumption)) ?_
        refine reg_quiet rfl (load_i tab_ok rfl rfl) ?_
        refine reg_quiet rfl (step_C tab_ok (fun K hk => hk)) ?_
        refine reg_quiet rfl (index_arr tab_ok rfl rfl rfl rfl rfl (by omega) (by assumption)) ?_
        refine reg_quiet rfl (step_C tab_ok (fun K hk => hk)) ?_
        refine reg_quiet rfl (load_i tab_ok rfl rfl) ?_
        refine reg_quiet rfl (len_arr tab_ok rfl rfl) ?_
        refine reg_quiet rfl (step_C tab_ok (fun K hk => hk)) ?_
        refine reg_nil ?_
        refine seq_n ?_
        refine wc_false rfl (by assumption) ?_
        refine wc_skip ?_
        refine blk_n ?_
        refine seq_n ?_
        refine wc_region ?_
        refine reg_quiet rfl (step_C tab_ok (fun K hk => hk)) ?_
        refine reg_quiet rfl (add_int tab_ok rfl rfl (wrap_i64 (by omega) (by omega))) ?_
        refine reg_quiet rfl (step_C tab_ok (fun K hk => hk)) ?_
        refine reg_nil ?_
        exact loop_n (j + 1) [] ⟨hjl, fun x hx => by rw [List.take_add_one, ho] at hx; rcases List.mem_append.1 hx with hx | hx; exact hdat x hx; rw [show x = o by simpa using hx]; omega⟩ (by omega) (.of rfl rfl rfl rfl rfl ⟨⟨_, rfl, .refl _⟩, rfl, ⟨_, rfl, .refl _⟩, rfl, ⟨_, rfl, .refl _⟩, rfl, ⟨_, rfl, .refl _⟩, rfl, trivial⟩ trivial)
    · have he : j = p.length := by have := of_decide_eq_false h4; omega
      subst he
      refine wc_exit ?_
      refine seq_x ?_
      refine loop_x ?_
      refine blk_x ?_
      refine blk_n ?_
      refine seq_n ?_
      refine wc_region ?_
      refine reg_quiet rfl (step_C tab_ok (fun K hk => hk)) ?_
      refine reg_quiet rfl (add_int tab_ok rfl rfl (wrap_i64 (by omega) (by omega))) ?_
      refine reg_quiet rfl (step_C tab_ok (fun K hk => hk)) ?_
      refine reg_nil ?_
      exact loop_n (i + 1) [] ⟨hlt, by omega, fun x hx => by rw [List.take_add_one, hp] at hx; rcases List.mem_append.1 hx with hx | hx; exact hgood x hx; rw [show x = p by simpa using hx]; exact ⟨by omega, fun o ho => hdat o (by rw [List.take_length]; exact ho)⟩⟩ (by omega) (.of rfl rfl rfl rfl rfl ⟨⟨_, rfl, .refl _⟩, rfl, ⟨_, rfl, .refl _⟩, rfl, ⟨_, rfl, .refl _⟩, rfl, trivial⟩ trivial)
  · have he : i = l.length := by have := of_decide_eq_false h3; omega
    subst he
    rw [List.take_length] at hfl hgood
    rw [show smallB l = true from (small_iff l).2 ⟨by omega, hfl, hgood⟩]
    refine wc_exit ?_
    refine seq_x ?_
    refine loop_x ?_
    refine blk_x ?_
    refine seq_n ?_
    refine wc_seq ?_
    refine wc_region ?_
    refine reg_quiet rfl (step_C tab_ok (fun K hk => hk)) ?_
    refine reg_nil ?_
    refine seq_n ?_
    refine wc_ret ?_
    exact ⟨trivial, [], .of rfl rfl rfl rfl rfl ⟨⟨_, rfl, AVLe.of_eq rfl⟩, rfl, trivial⟩ trivial⟩
end Go.Proofs.YtmojbghcngdkpaaGreatDoor

namespace Go.Proofs.YtmojbghcngdkpaaGreatDoor
open Go.Eng Go.Plain
set_option maxHeartbeats 4000000
set_option maxRecDepth 20000
attribute [local irreducible] WC RegS RegD SeqQ BlkQ ScoQ RegK CutK Sat SatN FnIs LoopQ StepIs OpIs
abbrev r01 (b : Bool) : AV := .d (i6 (if b = true then 1 else 0))
end Go.Proofs.YtmojbghcngdkpaaGreatDoor

namespace Go.Proofs.YtmojbghcngdkpaaGreatDoor
open Go.Eng Go.Plain
set_option maxHeartbeats 4000000
set_option maxRecDepth 20000
attribute [local irreducible] WC RegS RegD SeqQ BlkQ ScoQ RegK CutK Sat SatN FnIs LoopQ StepIs OpIs
abbrev k4 (l : List POp) : D := .cons (i6 (cK 1 l)) (.cons (i6 (cK 2 l)) (.cons (i6 (cK 3 l)) (.cons (i6 (cO l)) .nil)))
end Go.Proofs.YtmojbghcngdkpaaGreatDoor

namespace Go.Proofs.YtmojbghcngdkpaaGreatDoor
open Go.Eng Go.Plain
set_option maxHeartbeats 4000000
set_option maxRecDepth 20000
attribute [local irreducible] WC RegS RegD SeqQ BlkQ ScoQ RegK CutK Sat SatN FnIs LoopQ StepIs OpIs
/-- One number looked at: what stands, and whether n stands. -/
def wStep (n : Int) (s : List Int × Bool) (x : Int) : List Int × Bool :=
  let t := if s.2 = false ∧ n ≤ x then (s.1 ++ [n], true) else s
  (if x = n then t.1 else t.1 ++ [x], t.2)
def wPre (n : Int) (l : List Int) : List Int × Bool := l.foldl (wStep n) ([], false)
def withL (l : List Int) (n : Int) : List Int := if (wPre n l).2 = true then (wPre n l).1 else (wPre n l).1 ++ [n]
def bi (b : Bool) : Int := if b then 1 else 0
abbrev rowI (l : List Int) : Row := .ds 3 1 false i6 l
end Go.Proofs.YtmojbghcngdkpaaGreatDoor

namespace Go.Proofs.YtmojbghcngdkpaaGreatDoor
open Go.Eng Go.Plain
def uB : Bool → Nat
  | true => 0
  | false => 1
/-- Whether an operation touches a block. -/
def touB (b : Int) (o : POp) : Bool := !decide (o.kind = 3) && !badO o b
def touS (b : Int) (acc : List Int) (o : POp) : List Int := if touB b o = true then withL acc o.index else acc
def touL (b : Int) (l : List POp) : List Int := l.foldl (touS b) []
end Go.Proofs.YtmojbghcngdkpaaGreatDoor

namespace Go.Proofs.YtmojbghcngdkpaaGreatDoor
open Go.Eng Go.Plain
set_option maxHeartbeats 4000000
set_option maxRecDepth 20000
attribute [local irreducible] WC RegS RegD SeqQ BlkQ ScoQ RegK CutK Sat SatN FnIs LoopQ StepIs OpIs
end Go.Proofs.YtmojbghcngdkpaaGreatDoor

namespace Go.Proofs.YtmojbghcngdkpaaGreatDoor
open Go.Eng Go.Plain
set_option maxHeartbeats 4000000
set_option maxRecDepth 20000
attribute [local irreducible] WC RegS RegD SeqQ BlkQ ScoQ RegK CutK Sat SatN FnIs LoopQ StepIs OpIs
end Go.Proofs.YtmojbghcngdkpaaGreatDoor

namespace Go.Eng
open Go.RowKit
end Go.Eng

namespace Go.Proofs.YtmojbghcngdkpaaGreatDoor
open Go.Eng Go.Plain
set_option maxHeartbeats 4000000
set_option maxRecDepth 20000
attribute [local irreducible] WC RegS RegD SeqQ BlkQ ScoQ RegK CutK Sat SatN FnIs LoopQ StepIs OpIs
def decD : List UInt8 := [48, 49, 50, 51, 52, 53, 54, 55, 56, 57]
end Go.Proofs.YtmojbghcngdkpaaGreatDoor

namespace Go.Proofs.YtmojbghcngdkpaaGreatDoor
open Go.Eng Go.Plain
set_option maxHeartbeats 4000000
set_option maxRecDepth 20000
attribute [local irreducible] WC RegS RegD SeqQ BlkQ ScoQ RegK CutK Sat SatN FnIs LoopQ StepIs OpIs
end Go.Proofs.YtmojbghcngdkpaaGreatDoor

namespace Go.Proofs.YtmojbghcngdkpaaGreatDoor
open Go.Eng Go.Plain
set_option maxHeartbeats 4000000
set_option maxRecDepth 20000
attribute [local irreducible] WC RegS RegD SeqQ BlkQ ScoQ RegK CutK Sat SatN FnIs LoopQ StepIs OpIs
end Go.Proofs.YtmojbghcngdkpaaGreatDoor

namespace Go.Proofs.YtmojbghcngdkpaaGreatDoor
open Go.Eng Go.Plain
set_option maxHeartbeats 4000000
set_option maxRecDepth 20000
attribute [local irreducible] WC RegS RegD SeqQ BlkQ ScoQ RegK CutK Sat SatN FnIs LoopQ StepIs OpIs
end Go.Proofs.YtmojbghcngdkpaaGreatDoor

namespace Go.Plain
open Go.Eng Go.Lib
end Go.Plain

namespace Go.Proofs.YtmojbghcngdkpaaGreatDoor
open Go.Eng Go.Plain
set_option maxHeartbeats 4000000
set_option maxRecDepth 20000
attribute [local irreducible] WC RegS RegD SeqQ BlkQ ScoQ RegK CutK Sat SatN FnIs LoopQ StepIs OpIs
end Go.Proofs.YtmojbghcngdkpaaGreatDoor

namespace Go.Proofs.YtmojbghcngdkpaaGreatDoor
open Go.Eng Go.Plain
set_option maxHeartbeats 4000000
set_option maxRecDepth 20000
attribute [local irreducible] WC RegS RegD SeqQ BlkQ ScoQ RegK CutK Sat SatN FnIs LoopQ StepIs OpIs
def o1 {α : Type} (o : Option α) : Int := match o with
  | some _ => 1
  | none => 0
abbrev intRes (o : Option Int) : AV := .tup (.acons (.int .i64 (o.getD 0)) (.acons (.int .i64 (o1 o)) .anil))
end Go.Proofs.YtmojbghcngdkpaaGreatDoor

namespace Go.Proofs.YtmojbghcngdkpaaGreatDoor
open Go.Eng Go.Plain
set_option maxHeartbeats 4000000
set_option maxRecDepth 20000
attribute [local irreducible] WC RegS RegD SeqQ BlkQ ScoQ RegK CutK Sat SatN FnIs LoopQ StepIs OpIs
def nV (l : List UInt8) : Nat := l.foldl (fun n c => n * 16 + nibV c) 0
abbrev byR (o : Option (List UInt8)) : AV := .tup (.acons (.d (encB (o.getD []))) (.acons (.int .i64 (o1 o)) .anil))
end Go.Proofs.YtmojbghcngdkpaaGreatDoor

namespace Go.Proofs.YtmojbghcngdkpaaGreatDoor
open Go.Eng Go.Plain
set_option maxHeartbeats 4000000
set_option maxRecDepth 20000
set_option linter.unusedVariables false
set_option linter.unusedSimpArgs false
attribute [local irreducible] WC RegS RegD SeqQ BlkQ ScoQ RegK CutK Sat SatN FnIs LoopQ StepIs OpIs
abbrev readA (o : Option POp) : AV := .tup (.acons (.d (encPOp (o.getD opNil))) (.acons (.int .i64 (o1 o)) .anil))
def finR (s : List UInt8) (o : Option POp) : Option POp := match o with
  | some o => if lineP o = s then some o else none
  | none => none
def op4 (o : Option Int) (x y : List UInt8) : Option POp := match o with
  | some k => Plain.opR k x y
  | none => none
end Go.Proofs.YtmojbghcngdkpaaGreatDoor

namespace Go.Eng
open Go.RowKit Go.Sort
abbrev encI64 (n : Int) : D := .sc (.int .i64 n)
theorem cat_i64 (l : List Int) : cat (fun i => [Value.int .i64 (l.getD i 0)]) l.length = l.map (Value.int .i64) := by
  have key : ∀ n, n ≤ l.length → cat (fun i => [Value.int .i64 (l.getD i 0)]) n = (l.take n).map (Value.int .i64) := by
    intro n
    induction n with
    | zero => intro _; rfl
    | succ n ih =>
      intro hn
      have hlt : n < l.length := by omega
      have e : l.take (n + 1) = l.take n ++ [l[n]] := by rw [List.take_add_one, List.getElem?_eq_getElem hlt]; rfl
      have e2 : l.getD n 0 = l[n] := by rw [List.getD_eq_getElem?_getD, List.getElem?_eq_getElem hlt]; rfl
      rw [cat, ih (by omega), e, List.map_append, e2]
      rfl
  rw [key _ (Nat.le_refl _), List.take_length]
theorem cat_i64' {w : World} {X : Nat → Prop} {f : Nat → List Value} {l : List Int} (hf : ∀ i (h : i < l.length), Enc w X (encI64 l[i]) (f i) ∧ (f i).length = 1) : cat f l.length = l.map (Value.int .i64) := by
  rw [← cat_i64]
  refine cat_congr _ fun i hi => ?_
  obtain ⟨⟨h1, _⟩, _⟩ := hf i hi
  rw [h1, List.getD_eq_getElem?_getD, List.getElem?_eq_getElem hi]
  rfl
theorem put_take {ys : List Int} {cur : Array Value} (h : ys.length ≤ cur.size) : (putCells (Value.int .i64) 0 ys.toArray cur).toList.take ys.length = ys.map (Value.int .i64) := by
  apply List.ext_getElem?
  intro k
  rw [List.getElem?_take]
  by_cases hk : k < ys.length
  · rw [if_pos hk, Array.getElem?_toList, putCells, Array.getElem?_mapIdx, Array.getElem?_eq_getElem (by omega)]
    simp only [Option.map_some, Nat.zero_le, true_and, Nat.zero_add, List.size_toArray, hk, if_true, Nat.sub_zero]
    rw [List.getElem?_map, List.getElem?_eq_getElem hk]
    simp [hk]
  · rw [if_neg hk, List.getElem?_eq_none (by simp; omega)]
variable {P : Program}
/-- A row of ints, changed in place. -/
theorem FnIs.of_calls_ints {f : FuncId} {t : TypeId} {ex : Bool} {xs ys : List Int} {res : AV} {rv : Nat → Nat → Value} (hne : 0 < xs.length) (hl : ys.length = xs.length)
    (hfn : ∃ fn, P.funcs[f]? = some fn ∧ (fn.name == "runtime.NumGoroutine") = false ∧ fn.body.isNone = false)
    (hres : ∀ (σ : Place) (w : World) (X : Nat → Prop) (b c : Nat), σ 0 = some (b, c) → xs.length ≤ c → RelV σ w X res (rv b c)) (hin : res.within (fun r => r < 72))
    (h : ∀ (w : World) (b c : Nat), b < w.heap.size → Holds (Value.int .i64) w b 0 xs.toArray → xs.length ≤ c →
      Calls P f #[.slice (some ⟨b, 0, none⟩) xs.length c] w fun e w' => e = .returned (rv b c) ∧ ∃ n os, w' = grow (putRow (Value.int .i64) (Sort.ahead w n) b 0 ys.toArray) os) :
    FnIs P f [.own 0 0 xs.length 1 none] [(0, .ds t 1 ex encI64 xs)] res [(0, .ds t 1 ex encI64 ys)] := by
  refine ⟨hfn, fun C σ w vs hbs hB hw hσ hro hst => ?_⟩
  have hlen : vs.length = 1 := by have := hst.sz; simpa [inSt] using this
  obtain ⟨v, rfl⟩ : ∃ v, vs = [v] := by
    match vs, hlen with
    | [v], _ => exact ⟨v, rfl⟩
  have hr0 : (inSt [.own 0 0 xs.length 1 none] [(0, Row.ds t 1 ex encI64 xs)]).row 0 = some (Row.ds t 1 ex encI64 xs) := rfl
  obtain ⟨u, hu, hv⟩ := hst.env 0 _ rfl
  simp only [List.getElem?_toArray, List.getElem?_cons_zero, Option.some.injEq] at hu
  subst hu
  have hv : Rel σ w ((inSt [.own 0 0 xs.length 1 none] [(0, Row.ds t 1 ex encI64 xs)]).X C.X0 σ) (.own 0 0 xs.length 1 none) false [v] := by
    unfold RelV at hv
    simpa [AV.isAgg] using hv
  rcases hst.rows 0 _ hr0 with ⟨_, h2⟩ | ⟨b, c, cur, h1, h0, h2, h3, h4, h5, g, hg, h6⟩
  · rw [h2] at hne; exact absurd hne (by decide)
  rcases hv with ⟨h7, _⟩ | ⟨b', c', a, h7, h8, _, _, _, h9⟩
  · rw [h1] at h7; cases h7
  rw [h1] at h7
  cases h7
  obtain rfl := h9 (by omega)
  have hv2 : v = .slice (some ⟨b, 0, none⟩) xs.length c := by simpa using h8
  subst hv2
  have hblt : b < w.heap.size := (Array.getElem?_eq_some_iff.1 h2).1
  rw [Nat.mul_one] at h3 h6
  rw [cat_i64' hg] at h6
  have hH : Holds (Value.int .i64) w b 0 xs.toArray := by
    intro j hj
    simp only [List.size_toArray] at hj
    refine ⟨?_, ?_⟩
    · simp only [World.cell?, h2, Nat.zero_add]
      have := congrArg (fun l => l[j]?) h6
      simp only [List.getElem?_take, if_pos hj, Array.getElem?_toList, List.getElem?_map] at this
      rw [this, List.getElem?_eq_getElem hj]
      simp [hj]
    · simp only [World.frozen?, h2]
      simp
  refine (h w b c hblt hH h4).mono ?_
  rintro e w' ⟨rfl, n, os, rfl⟩
  refine ⟨_, σ, rfl, ?_⟩
  have hnew : (grow (putRow (Value.int .i64) (Sort.ahead w n) b 0 ys.toArray) os).heap[b]? = some (.cells (putCells (Value.int .i64) 0 ys.toArray cur) t (0, 0)) := by
    show ((w.heap.modify b _) ++ os)[b]? = _
    rw [Array.getElem?_append_left (by simpa using hblt), Array.getElem?_modify, if_pos rfl, h2]
    rfl
  have hother : ∀ k, k ≠ b → k < w.heap.size → (grow (putRow (Value.int .i64) (Sort.ahead w n) b 0 ys.toArray) os).heap[k]? = w.heap[k]? := by
    intro k hk hkl
    show ((w.heap.modify b _) ++ os)[k]? = _
    rw [Array.getElem?_append_left (by simpa using hkl), Array.getElem?_modify, if_neg (Ne.symm hk)]
  have hMb : C.M b := by
    rcases hst.high _ _ _ _ hr0 h1 with hh | hh
    · omega
    · exact hh
  have hX : (resSt res [(0, Row.ds t 1 ex encI64 ys)]).X C.X0 σ = (inSt [.own 0 0 xs.length 1 none] [(0, Row.ds t 1 ex encI64 xs)]).X C.X0 σ := by
    funext x
    apply propext
    constructor
    · rintro (hx | ⟨r, row, c', h5, h6⟩)
      · exact .inl hx
      · by_cases e : 0 = r
        · subst e; exact .inr ⟨0, _, c', hr0, h6⟩
        · simp only [resSt, someRows, St.row, lk_cons, if_neg e, lk] at h5; cases h5
    · rintro (hx | ⟨r, row, c', h5, h6⟩)
      · exact .inl hx
      · by_cases e : 0 = r
        · subst e; exact .inr ⟨0, _, c', rfl, h6⟩
        · simp only [inSt, someRows, St.row, lk_cons, if_neg e, lk] at h5; cases h5
  have hbm : BelowM C.B C.M w (grow (putRow (Value.int .i64) (Sort.ahead w n) b 0 ys.toArray) os) := by
    refine ⟨rfl, rfl, rfl, ?_, fun k hk hm => hother k (by rintro rfl; exact hm hMb) (by omega), fun k o ho hb => ?_⟩
    · show w.heap.size ≤ ((w.heap.modify b _) ++ os).size
      simp
    · have hk : k < w.heap.size := (Array.getElem?_eq_some_iff.1 ho).1
      exact (hother k (by rintro rfl; rw [h2] at ho; cases ho; cases hb) hk).trans ho
  exact
    { env := fun i x hi => by
        by_cases e : i = 0
        · subst e
          simp only [resSt, lk_cons, if_pos, Option.some.injEq] at hi
          subst hi
          exact ⟨_, rfl, hres _ _ _ _ _ h1 h4⟩
        · simp only [resSt, lk_cons, if_neg (Ne.symm e), lk] at hi
          cases hi
      envG := fun i x hi => by
        by_cases e : i = 0
        · subst e
          simp only [resSt, lk_cons, if_pos, Option.some.injEq] at hi
          subst hi
          exact hin
        · simp only [resSt, lk_cons, if_neg (Ne.symm e), lk] at hi
          cases hi
      rows := fun r row hr => by
        by_cases e : 0 = r
        · subst e
          simp only [resSt, someRows, St.row, lk_cons, if_pos, Option.bind_some, id, Option.some.injEq] at hr
          subst hr
          refine .inr ⟨b, c, _, h1, fun hex => by rw [hl]; exact h0 hex, hnew, by rw [Nat.mul_one]; simpa [putCells] using h3, by omega, h5, fun i => [.int .i64 (ys.getD i 0)], fun i hi => ⟨⟨?_, rfl⟩, rfl⟩, ?_⟩
          · show [Value.int .i64 (ys.getD i 0)] = _
            rw [List.getD_eq_getElem?_getD, List.getElem?_eq_getElem hi]; rfl
          · rw [Nat.mul_one, cat_i64]
            exact put_take (by omega)
        · simp only [resSt, someRows, St.row, lk_cons, if_neg e, lk] at hr; cases hr
      rowsG := fun r row hr => by
        by_cases e : 0 = r
        · subst e
          simp only [resSt, someRows, St.row, lk_cons, if_pos, Option.bind_some, id, Option.some.injEq] at hr
          subst hr
          exact ⟨by decide, trivial⟩
        · simp only [resSt, someRows, St.row, lk_cons, if_neg e, lk] at hr; cases hr
      inj := fun r r' row row' b c c' hr hr' _ _ => by
        by_cases e : 0 = r
        · by_cases e' : 0 = r'
          · omega
          · simp only [resSt, someRows, St.row, lk_cons, if_neg e', lk] at hr'; cases hr'
        · simp only [resSt, someRows, St.row, lk_cons, if_neg e, lk] at hr; cases hr
      high := fun r row b' c' hr hs => by
        by_cases e : 0 = r
        · subst e
          exact hst.high _ _ _ _ hr0 hs
        · simp only [resSt, someRows, St.row, lk_cons, if_neg e, lk] at hr; cases hr
      size := by
        show C.B ≤ ((w.heap.modify b _) ++ os).size
        simp; omega
      below := by rw [hw]; exact hbm
      defers := trivial
      sz := rfl
      x0 := hst.x0
      agree := fun r _ => by rw [hσ]
      baseG := fun r hr => by rw [hbs] at hr; show r < 72; omega
      bs := by rw [hbs]; rfl
      rok := fun l hl => by rw [hro] at hl; cases hl
      glob := hst.glob }
end Go.Eng

namespace Go.Eng
open Go.RowKit
variable {P : Program} {f : FuncId} {avs avs' : List AV} {h0 : List (Nat × Row)} {res : AV}
/-- What is known at the beginning is known otherwise, too. -/
def Tells (avs : List AV) (h0 : List (Nat × Row)) (avs' : List AV) (h0' : List (Nat × Row)) : Prop :=
  ∀ (C : Ctx) (G : Nat → Prop) (σ : Place) (w : World) (a : Act), StRel C G (inSt avs h0) σ w a → StRel C G (inSt avs' h0') σ w a
/-- The result hangs on no memory. -/
def FreeRes (res : AV) : Prop := (∀ (σ σ' : Place) (w w' : World) (X X' : Nat → Prop) (v : Value), RelV σ w X res v → RelV σ' w' X' res v) ∧ ∀ G : Nat → Prop, res.within G
end Go.Eng

namespace Go.Eng
open Go.RowKit
theorem RowLe.ds_take {t : TypeId} {s m : Nat} {ex : Bool} {α : Type} {enc : α → D} {xs : List α} : RowLe (.ds t s ex enc xs) (.ds t s false enc (xs.take m)) := by
  intro σ w X r h
  rcases h with ⟨h1, rfl⟩ | ⟨b, c, cur, h1, _, h2, h3, h4, h5, f, hf, h6⟩
  · exact .inl ⟨h1, by simp⟩
  · have hle : (xs.take m).length ≤ xs.length := by rw [List.length_take]; omega
    refine .inr ⟨b, c, cur, h1, (fun h => by cases h), h2, h3, by omega, h5, f, fun i hi => ?_, ?_⟩
    · have hi' : i < xs.length := by omega
      rw [List.getElem_take]
      exact hf i hi'
    · obtain ⟨k, hk⟩ : ∃ k, xs.length = (xs.take m).length + k := ⟨xs.length - (xs.take m).length, by omega⟩
      have hl := cat_len (xs.take m).length (fun i hi => (hf i (by omega)).2)
      have h7 := congrArg (List.take ((xs.take m).length * s)) h6
      rw [List.take_take, Nat.min_eq_left (Nat.mul_le_mul_right s hle)] at h7
      rw [h7]
      conv => lhs; rw [hk, cat_add]
      rw [List.take_append_of_le_length (by rw [hl]; exact Nat.le_refl _), List.take_of_length_le (by rw [hl]; exact Nat.le_refl _)]
theorem Frz.row_le {r : Nat} {row row' : Row} {a a' : AV} (h : RowLe row row') (hf : Frz r row' a a') : Frz r row a a' :=
  ⟨hf.1, hf.2.1, hf.2.2.1, fun σ w X X' hx hn hr cs hc => hf.2.2.2 σ w X X' hx hn (h σ w X r hr) cs hc⟩
end Go.Eng

namespace Go.Proofs.YtmojbghcngdkpaaGreatDoor
open Go.Eng Go.Plain
set_option maxHeartbeats 4000000
set_option maxRecDepth 20000
set_option linter.unusedVariables false
attribute [local irreducible] WC RegS RegD SeqQ BlkQ ScoQ RegK CutK Sat SatN FnIs LoopQ StepIs OpIs
abbrev rpR (x : List (List POp) × Nat × Int) : AV := .tup (.acons (.d (encPL x.1)) (.acons (.int .i64 (x.2.1 : Nat)) (.acons (.int .i64 x.2.2) .anil)))
@[reducible] noncomputable def qSt (s : List UInt8) (W : List (List UInt8)) : Option (List (List POp) × List POp) × Nat → St
  | (none, i) => ⟨[(7, .int .i64 i), (6, .d (.sc nil_)), (5, .d (.arr 1 strD W))], [], 72, Tryz.f50.ntmps, 64⟩
  | (some (l, p), i) => ⟨[(7, .int .i64 i), (6, .own 65 0 (l.length + 1) 1 none), (5, .d (.arr 1 strD W))], [(65, some (rowL p l (l.length + 1) 66)), (66, some (rowP p))], 72, Tryz.f50.ntmps, 64⟩
def QInv (W : List (List UInt8)) : Option (List (List POp) × List POp) × Nat → Prop
  | (q, i) => i ≤ W.length ∧ parseR (W.drop i) i (toL q) = parseR W 0 [] ∧ chkP (toL q) = 0
end Go.Proofs.YtmojbghcngdkpaaGreatDoor

namespace Go.Plain
open Go.Lib
theorem asc_unique : ∀ (a b : List Int), a.Pairwise (· < ·) → b.Pairwise (· < ·) → (∀ x, x ∈ a ↔ x ∈ b) → a = b
  | [], [], _, _, _ => rfl
  | [], y :: b, _, _, h => absurd ((h y).2 (List.mem_cons_self ..)) (by simp)
  | x :: a, [], _, _, h => absurd ((h x).1 (List.mem_cons_self ..)) (by simp)
  | x :: a, y :: b, ha, hb, h => by
    have ha' := List.pairwise_cons.1 ha
    have hb' := List.pairwise_cons.1 hb
    have h1 := (h x).1 (List.mem_cons_self ..)
    have h2 := (h y).2 (List.mem_cons_self ..)
    have hxy : x = y := by
      rcases List.mem_cons.1 h1 with e | e
      · exact e
      · rcases List.mem_cons.1 h2 with e2 | e2
        · exact e2.symm
        · have h3 := ha'.1 y e2
          have h4 := hb'.1 x e
          omega
    subst hxy
    congr 1
    refine asc_unique a b ha'.2 hb'.2 fun z => ⟨fun hz => ?_, fun hz => ?_⟩
    · have h5 := ha'.1 z hz
      rcases List.mem_cons.1 ((h z).1 (List.mem_cons_of_mem _ hz)) with e | e
      · omega
      · exact e
    · have h5 := hb'.1 z hz
      rcases List.mem_cons.1 ((h z).2 (List.mem_cons_of_mem _ hz)) with e | e
      · omega
      · exact e
theorem compact_asc {d : Array Int} (hs : ∀ i j, i < j → j < d.size → d[i]! ≤ d[j]!) : ∀ m, m ≤ d.size →
    (compactUpTo d m).Pairwise (· < ·) ∧ (∀ x, x ∈ compactUpTo d m ↔ ∃ j, j < m ∧ d[j]! = x) := by
  intro m
  induction m with
  | zero => intro _; exact ⟨List.Pairwise.nil, fun x => by simp [compactUpTo]⟩
  | succ m ih =>
    intro hm
    obtain ⟨h1, h2⟩ := ih (by omega)
    rw [compactUpTo_succ]
    by_cases hk : keeps d m = true
    · rw [if_pos hk]
      have hlt : ∀ x, x ∈ compactUpTo d m → x < d[m]! := by
        intro x hx
        obtain ⟨j, hj, rfl⟩ := (h2 x).1 hx
        rcases of_decide_eq_true hk with h0 | h0
        · omega
        · have h3 := hs (m - 1) m (by omega) (by omega)
          rcases Nat.lt_or_ge j (m - 1) with h4 | h4
          · have := hs j (m - 1) h4 (by omega); omega
          · have : j = m - 1 := by omega
            subst this; omega
      refine ⟨List.pairwise_append.2 ⟨h1, List.pairwise_singleton _ _, fun x hx y hy => ?_⟩, fun x => ?_⟩
      · rw [List.mem_singleton.1 hy]; exact hlt x hx
      · rw [List.mem_append, h2, List.mem_singleton]
        constructor
        · rintro (⟨j, hj, e⟩ | e)
          · exact ⟨j, by omega, e⟩
          · exact ⟨m, by omega, e.symm⟩
        · rintro ⟨j, hj, e⟩
          rcases Nat.lt_or_ge j m with h4 | h4
          · exact .inl ⟨j, h4, e⟩
          · have : j = m := by omega
            subst this; exact .inr e.symm
    · rw [if_neg hk, List.append_nil]
      have hk' : ¬ (m = 0 ∨ d[m]! ≠ d[m - 1]!) := fun h => hk (decide_eq_true h)
      have hm0 : m ≠ 0 := fun e => hk' (.inl e)
      have he : d[m]! = d[m - 1]! := Classical.byContradiction fun e => hk' (.inr e)
      refine ⟨h1, fun x => ?_⟩
      rw [h2]
      constructor
      · rintro ⟨j, hj, e⟩; exact ⟨j, by omega, e⟩
      · rintro ⟨j, hj, e⟩
        rcases Nat.lt_or_ge j m with h4 | h4
        · exact ⟨j, h4, e⟩
        · have : j = m := by omega
          subst this; exact ⟨j - 1, by omega, by rw [← he]; exact e⟩
abbrev sortI (l : List Int) : List Int := l.mergeSort fun x y => decide (x ≤ y)
theorem sort_len (l : List Int) : (sortI l).length = l.length := List.length_mergeSort _
theorem sort_mem (l : List Int) (x : Int) : x ∈ sortI l ↔ x ∈ l := List.mem_mergeSort
theorem sort_asc (l : List Int) : (sortI l).Pairwise (· ≤ ·) := by
  have := List.pairwise_mergeSort (le := fun x y : Int => decide (x ≤ y)) (fun a b c h1 h2 => by have := of_decide_eq_true h1; have := of_decide_eq_true h2; exact decide_eq_true (by omega)) (fun a b => by
    by_cases h : a ≤ b
    · simp [h]
    · have : b ≤ a := by omega
      simp [this]) l
  exact this.imp fun h => of_decide_eq_true h
theorem csort (l : List Int) : (compact (sortI l)).Pairwise (· < ·) ∧ ∀ x, x ∈ compact (sortI l) ↔ x ∈ l := by
  have h := compact_asc (d := (sortI l).toArray) (fun i j hij hj => by
    simp only [List.size_toArray] at hj
    have := List.pairwise_iff_getElem.1 (sort_asc l) i j (by omega) hj hij
    simp only [List.getElem!_toArray]
    rw [getElem!_pos _ i (by omega), getElem!_pos _ j hj]
    exact this) (sortI l).length (Nat.le_refl _)
  refine ⟨h.1, fun x => ?_⟩
  rw [show compact (sortI l) = compactUpTo (sortI l).toArray (sortI l).length from rfl, h.2, ← sort_mem l x]
  constructor
  · rintro ⟨j, hj, e⟩
    simp only [List.getElem!_toArray] at e
    rw [getElem!_pos _ j hj] at e
    rw [← e]; exact List.getElem_mem _
  · intro hx
    obtain ⟨j, hj, e⟩ := List.getElem_of_mem hx
    refine ⟨j, hj, ?_⟩
    simp only [List.getElem!_toArray]
    rw [getElem!_pos _ j hj]
    exact e
theorem compact_len (l : List Int) : (compact l).length ≤ l.length := by
  unfold compact compactUpTo
  rw [List.length_map]
  refine Nat.le_trans (List.length_filter_le _ _) ?_
  simp
end Go.Plain

namespace Go.Proofs.YtmojbghcngdkpaaGreatDoor
open Go.Eng Go.Plain Go.Lib
def insL (n : Int) : List Int → List Int
  | [] => [n]
  | x :: l => if n ≤ x then n :: (x :: l).filter (fun y => decide (y ≠ n)) else x :: insL n l
theorem wfold_true (n : Int) : ∀ (l o : List Int), l.foldl (wStep n) (o, true) = (o ++ l.filter (fun y => decide (y ≠ n)), true)
  | [], o => by simp
  | x :: l, o => by
    rw [List.foldl_cons]
    by_cases h : x = n
    · rw [show wStep n (o, true) x = (o, true) by simp [wStep, h], wfold_true n l o]
      simp [h]
    · rw [show wStep n (o, true) x = (o ++ [x], true) by simp [wStep, h], wfold_true n l (o ++ [x])]
      simp [h]
def wOut (n : Int) (s : List Int × Bool) : List Int := if s.2 = true then s.1 else s.1 ++ [n]
theorem wfold_false (n : Int) : ∀ (l o : List Int), wOut n (l.foldl (wStep n) (o, false)) = o ++ insL n l
  | [], o => by simp [insL, wOut]
  | x :: l, o => by
    rw [List.foldl_cons]
    by_cases h : n ≤ x
    · by_cases h2 : x = n
      · rw [show wStep n (o, false) x = (o ++ [n], true) by simp [wStep, h, h2], wfold_true n l (o ++ [n])]
        simp [wOut, insL, h2]
      · rw [show wStep n (o, false) x = (o ++ [n] ++ [x], true) by simp [wStep, h, h2], wfold_true n l (o ++ [n] ++ [x])]
        simp [wOut, insL, h, h2]
    · have h2 : x ≠ n := by omega
      rw [show wStep n (o, false) x = (o ++ [x], false) by simp [wStep, h, h2], wfold_false n l (o ++ [x])]
      simp [insL, h]
theorem withL_ins (l : List Int) (n : Int) : withL l n = insL n l := by
  have h := wfold_false n l []
  rw [List.nil_append] at h
  rw [← h]
  cases hb : (l.foldl (wStep n) ([], false)).2 <;> simp [withL, wPre, wOut, hb]
theorem insL_mem (n x : Int) : ∀ (l : List Int), x ∈ insL n l ↔ x = n ∨ x ∈ l
  | [] => by simp [insL]
  | y :: l => by
    rw [insL]
    by_cases h : n ≤ y
    · rw [if_pos h, List.mem_cons, List.mem_filter]
      by_cases e : x = n
      · simp [e]
      · simp [e]
    · rw [if_neg h, List.mem_cons, insL_mem n x l, List.mem_cons]
      constructor
      · rintro (h | h | h)
        · exact .inr (.inl h)
        · exact .inl h
        · exact .inr (.inr h)
      · rintro (h | h | h)
        · exact .inr (.inl h)
        · exact .inl h
        · exact .inr (.inr h)
theorem insL_asc (n : Int) : ∀ (l : List Int), l.Pairwise (· < ·) → (insL n l).Pairwise (· < ·)
  | [], _ => by simp [insL]
  | y :: l, hl => by
    have hl' := List.pairwise_cons.1 hl
    rw [insL]
    by_cases h : n ≤ y
    · rw [if_pos h]
      refine List.pairwise_cons.2 ⟨fun x hx => ?_, hl.filter _⟩
      obtain ⟨h1, h2⟩ := List.mem_filter.1 hx
      have h2 := of_decide_eq_true h2
      rcases List.mem_cons.1 h1 with e | e
      · omega
      · have := hl'.1 x e; omega
    · rw [if_neg h]
      refine List.pairwise_cons.2 ⟨fun x hx => ?_, insL_asc n l hl'.2⟩
      rcases (insL_mem n x l).1 hx with e | e
      · omega
      · exact hl'.1 x e
def idxL (b : Int) (l : List POp) : List Int := (l.filter (touB b)).map POp.index
theorem tou_fold (b : Int) : ∀ (l : List POp) (a : List Int), a.Pairwise (· < ·) → (l.foldl (touS b) a).Pairwise (· < ·) ∧ ∀ x, x ∈ l.foldl (touS b) a ↔ x ∈ a ∨ x ∈ idxL b l
  | [], a, ha => ⟨ha, fun x => by simp [idxL]⟩
  | o :: l, a, ha => by
    rw [List.foldl_cons]
    by_cases h : touB b o = true
    · rw [show touS b a o = insL o.index a by rw [touS, if_pos h, withL_ins]]
      obtain ⟨h1, h2⟩ := tou_fold b l _ (insL_asc o.index a ha)
      refine ⟨h1, fun x => ?_⟩
      rw [h2, insL_mem, show idxL b (o :: l) = o.index :: idxL b l by simp [idxL, h], List.mem_cons]
      constructor
      · rintro ((h | h) | h)
        · exact .inr (.inl h)
        · exact .inl h
        · exact .inr (.inr h)
      · rintro (h | h | h)
        · exact .inl (.inr h)
        · exact .inl (.inl h)
        · exact .inr h
    · rw [show touS b a o = a by rw [touS, if_neg h]]
      obtain ⟨h1, h2⟩ := tou_fold b l a ha
      refine ⟨h1, fun x => ?_⟩
      rw [h2, show idxL b (o :: l) = idxL b l by simp [idxL, h]]
theorem touL_sort (b : Int) (l : List POp) : compact (sortI (idxL b l)) = touL b l := by
  obtain ⟨h1, h2⟩ := tou_fold b l [] List.Pairwise.nil
  obtain ⟨h3, h4⟩ := csort (idxL b l)
  refine asc_unique _ _ h3 h1 fun x => ?_
  rw [h4, show (x ∈ touL b l) = (x ∈ l.foldl (touS b) []) from rfl, h2]
  simp
theorem idxL_snoc (b : Int) (l : List POp) (o : POp) : idxL b (l ++ [o]) = if touB b o = true then idxL b l ++ [o.index] else idxL b l := by
  by_cases h : touB b o = true <;> simp [idxL, h]
theorem idxL_len (b : Int) (l : List POp) : (idxL b l).length ≤ l.length := by
  rw [idxL, List.length_map]
  exact List.length_filter_le _ _
end Go.Proofs.YtmojbghcngdkpaaGreatDoor

namespace Go.Proofs.YtmojbghcngdkpaaGreatDoor
open Go.Eng Go.Plain Go.RowKit
set_option maxHeartbeats 4000000
set_option maxRecDepth 20000
attribute [local irreducible] WC RegS RegD SeqQ BlkQ ScoQ RegK CutK Sat SatN FnIs LoopQ StepIs OpIs
theorem tup_nil (σ : Eng.Place) (w : World) (X : Nat → Prop) : RelV σ w X (.tup .anil) (.tuple #[]) := by
  unfold RelV
  simp only [AV.isAgg]
  exact ⟨[], rfl, rfl⟩
theorem sort_is (l : List Int) (h : 0 < l.length) (hl : l.length ≤ 100000) : FnIs Tryz.prog 86 [.own 0 0 l.length 1 none] [(0, rowI l)] (.tup .anil) [(0, rowI (sortI l))] :=
  .of_calls_ints (rv := fun _ _ => .tuple #[]) h (sort_len l) ⟨_, Tryz.func86, by kernel_rfl, by kernel_rfl⟩ (fun σ w X b c _ _ => tup_nil σ w X) trivial fun w b c hb hH hc => by
    refine (Tryz.slices_Sort_int b 0 c l w hH hb (by omega)).mono ?_
    rintro e w' ⟨h1, h2⟩
    exact ⟨h1, h2⟩
theorem compact_own (l : List Int) (h : 0 < l.length) (hl : l.length ≤ 100000) : FnIs Tryz.prog 89 [.own 0 0 l.length 1 none] [(0, rowI l)] (.own 0 0 (Lib.compact l).length 1 none) [(0, rowI (Lib.compact l ++ List.replicate (l.length - (Lib.compact l).length) 0))] :=
  .of_calls_ints (rv := fun b c => .slice (some ⟨b, 0, none⟩) (Lib.compact l).length c) h (by have := compact_len l; simp; omega) ⟨_, Tryz.func89, by kernel_rfl, by kernel_rfl⟩ (fun σ w X b c hs hc => by
    have := compact_len l
    unfold RelV
    simp only [AV.isAgg, Bool.false_eq_true, if_false]
    exact .inr ⟨b, c, ⟨b, 0, none⟩, hs, by simp, by omega, by simp, by simp; omega, fun _ => by simp⟩) (by show (0 : Nat) < 72; decide) fun w b c hb hH hc => by
    refine (Tryz.slices_Compact_int b 0 c l w hH (by omega) hc).mono ?_
    rintro e w' ⟨h1, q, h2⟩
    exact ⟨h1, q, #[], by rw [h2]; simp [Sort.grow_empty]⟩
theorem compact_is (l : List Int) (h : 0 < l.length) (hl : l.length ≤ 100000) : FnIs Tryz.prog 89 [.own 0 0 l.length 1 none] [(0, rowI l)] (.d (.arr 1 i6 (Lib.compact l))) [] :=
  (compact_own l h hl).freeze_out 0 _ rfl (Frz.row_le (row' := rowI (Lib.compact l)) (fun σ w X r hr => by
    have := RowLe.ds_take (m := (Lib.compact l).length) σ w X r hr
    rwa [List.take_left'] at this
    rfl) (Frz.own rfl)) trivial
theorem len64_0 : FnIs Tryz.prog 154 [.int .u64 0] [] (.int .i64 0) [] :=
  .of_calls1 rfl ⟨_, Tryz.func154, by kernel_rfl, by kernel_rfl⟩ fun σ w X vs ha hg => by
    rw [ha.one]
    refine (Tryz.bits_Len64 0 w (by decide) (by decide)).mono ?_
    rintro e w' ⟨rfl, rfl⟩
    exact ⟨rfl, Below.refl _ _⟩
theorem len_0 : FnIs Tryz.prog 125 [.int .u64 0] [] (.int .i64 0) [] := by
  refine fnIs_of tab_ok Tryz.func125 rfl rfl rfl ?_
  refine wc_seq ?_
  refine wc_region ?_
  refine reg_quiet rfl (step_C tab_ok (fun K hk => hk)) ?_
  refine reg_nil ?_
  refine seq_n ?_
  refine wc_seq ?_
  refine wc_false rfl rfl ?_
  refine wc_skip ?_
  refine seq_n ?_
  refine wc_seq ?_
  refine wc_region ?_
  refine reg_quiet rfl (step_C tab_ok (fun K hk => hk)) ?_
  refine reg_quiet rfl (call_r len64_0 rfl rfl (arg_e arg_nil) (.inl rfl) (fun _ => rfl)) ?_
  refine reg_quiet rfl (step_C tab_ok (fun K hk => hk)) ?_
  refine reg_nil ?_
  refine seq_n ?_
  refine wc_ret ?_
  exact ⟨trivial, [], .of rfl rfl rfl rfl rfl ⟨⟨_, rfl, AVLe.of_eq rfl⟩, rfl, trivial⟩ trivial⟩
theorem ins_nil : FnIs Tryz.prog 144 [.d (.sc nil_), .int .i64 0, .int .i64 0] [] (.tup .anil) [] := by
  refine fnIs_of tab_ok Tryz.func144 rfl rfl rfl ?_
  refine wc_seq ?_
  refine wc_region ?_
  refine reg_quiet rfl (step_C tab_ok (fun K hk => hk)) ?_
  refine reg_quiet rfl (add_int tab_ok rfl rfl (wrap_i64 (by omega) (by omega))) ?_
  refine reg_quiet rfl (step_C tab_ok (fun K hk => hk)) ?_
  refine reg_nil ?_
  refine seq_n ?_
  refine wc_block ?_
  refine wc_once ?_
  refine wc_seq ?_
  refine wc_seq ?_
  refine wc_region ?_
  refine reg_quiet rfl (step_C tab_ok (fun K hk => hk)) ?_
  refine reg_quiet rfl (step_C tab_ok (fun K hk => hk)) ?_
  refine reg_quiet rfl (step_C tab_ok (fun K hk => hk)) ?_
  refine reg_nil ?_
  refine seq_n ?_
  refine wc_false rfl rfl ?_
  refine wc_exit ?_
  refine seq_x ?_
  refine loop_x ?_
  refine blk_x ?_
  exact ⟨trivial, [], .of rfl rfl rfl rfl rfl ⟨⟨_, rfl, AVLe.of_eq rfl⟩, rfl, trivial⟩ trivial⟩
theorem pdq_nil : FnIs Tryz.prog 124 [.d (.sc nil_), .int .i64 0, .int .i64 0, .int .i64 0] [] (.tup .anil) [] := by
  refine fnIs_of tab_ok Tryz.func124 rfl rfl rfl ?_
  refine wc_seq ?_
  refine wc_region ?_
  refine reg_quiet rfl (step_C tab_ok (fun K hk => hk)) ?_
  refine reg_nil ?_
  refine seq_n ?_
  refine wc_seq ?_
  refine wc_region ?_
  refine reg_quiet rfl (step_C tab_ok (fun K hk => hk)) ?_
  refine reg_nil ?_
  refine seq_n ?_
  refine wc_block ?_
  refine wc_once ?_
  refine wc_block ?_
  refine wc_seq ?_
  refine wc_region ?_
  refine reg_quiet rfl (step_C tab_ok (fun K hk => hk)) ?_
  refine reg_quiet rfl (step_C tab_ok (fun K hk => hk)) ?_
  refine reg_quiet rfl (sub_int tab_ok rfl rfl (wrap_i64 (by omega) (by omega))) ?_
  refine reg_quiet rfl (step_C tab_ok (fun K hk => hk)) ?_
  refine reg_nil ?_
  refine seq_n ?_
  refine wc_seq ?_
  refine wc_seq ?_
  refine wc_region ?_
  refine reg_quiet rfl (step_C tab_ok (fun K hk => hk)) ?_
  refine reg_quiet rfl (step_C tab_ok (fun K hk => hk)) ?_
  refine reg_nil ?_
  refine seq_n ?_
  refine wc_true rfl rfl ?_
  refine wc_seq ?_
  refine wc_region ?_
  refine reg_quiet rfl (step_C tab_ok (fun K hk => hk)) ?_
  refine reg_quiet rfl (step_C tab_ok (fun K hk => hk)) ?_
  refine reg_quiet rfl (step_C tab_ok (fun K hk => hk)) ?_
  refine reg_quiet rfl (call_r ins_nil rfl rfl (arg_e (arg_e (arg_e arg_nil))) (.inl rfl) (fun _ => rfl)) ?_
  refine reg_nil ?_
  refine seq_n ?_
  refine wc_ret ?_
  refine seq_r ?_
  refine blk_r ?_
  refine loop_r ?_
  refine blk_r ?_
  exact ⟨trivial, [], .of rfl rfl rfl rfl rfl ⟨⟨_, rfl, AVLe.of_eq rfl⟩, rfl, trivial⟩ trivial⟩
theorem sort_nil : FnIs Tryz.prog 86 [.d (.sc nil_)] [] (.tup .anil) [] := by
  refine fnIs_of tab_ok Tryz.func86 rfl rfl rfl ?_
  refine wc_seq ?_
  refine wc_region ?_
  refine reg_quiet rfl (step_C tab_ok (fun K hk => hk)) ?_
  refine reg_quiet rfl (len_nil tab_ok rfl rfl) ?_
  refine reg_quiet rfl (step_C tab_ok (fun K hk => hk)) ?_
  refine reg_nil ?_
  refine seq_n ?_
  refine wc_region ?_
  refine reg_quiet rfl (step_C tab_ok (fun K hk => hk)) ?_
  refine reg_quiet rfl (step_C tab_ok (fun K hk => hk)) ?_
  refine reg_quiet rfl (step_C tab_ok (fun K hk => hk)) ?_
  refine reg_quiet rfl (conv_int tab_ok rfl rfl rfl rfl) ?_
  refine reg_quiet rfl (call_r len_0 rfl rfl (arg_e arg_nil) (.inl rfl) (fun _ => rfl)) ?_
  refine reg_quiet rfl (call_r pdq_nil rfl rfl (arg_e (arg_e (arg_e (arg_e arg_nil)))) (.inl rfl) (fun _ => rfl)) ?_
  refine reg_nil ?_
  exact ⟨trivial, [], .of rfl rfl rfl rfl rfl ⟨⟨_, rfl, AVLe.of_eq rfl⟩, rfl, trivial⟩ trivial⟩
theorem compact_nil : FnIs Tryz.prog 89 [.d (.sc nil_)] [] (.d (.sc nil_)) [] :=
  .of_calls1 rfl ⟨_, Tryz.func89, by kernel_rfl, by kernel_rfl⟩ fun σ w X vs ha hg => by
    rw [ha.one]
    refine (Tryz.slices_Compact_int_empty none 0 w).mono ?_
    rintro e w' ⟨rfl, rfl⟩
    exact ⟨rfl, Below.refl _ _⟩
theorem clonei_ne (l : List Int) (hp : 0 < l.length) (hlen : l.length ≤ 1048576) : FnIs Tryz.prog 88 [.d (.arr 1 i6 l)] [] (.own 64 0 l.length 1 none) [(64, rowI l)] := by
  refine fnIs_of tab_ok Tryz.func88 rfl rfl rfl ?_
  refine wc_seq ?_
  refine wc_region ?_
  refine reg_quiet rfl (step_C tab_ok (fun K hk => hk)) ?_
  refine reg_nil ?_
  refine seq_n ?_
  refine wc_seq ?_
  refine wc_seq ?_
  refine wc_region ?_
  refine reg_quiet rfl (step_C tab_ok (fun K hk => hk)) ?_
  refine reg_quiet rfl (eql_nil tab_ok rfl rfl rfl hp) ?_
  refine reg_nil ?_
  refine seq_n ?_
  refine wc_false rfl rfl ?_
  refine wc_skip ?_
  refine seq_n ?_
  refine wc_seq ?_
  refine wc_region ?_
  refine reg_quiet rfl (build_empty tab_ok rfl rfl) ?_
  refine reg_quiet rfl (step_C tab_ok (fun K hk => hk)) ?_
  refine reg_new (append_empty_arr tab_ok rfl rfl rfl rfl rfl (.inl rfl) rfl hp hlen rfl) rfl ?_
  refine reg_quiet rfl (step_C tab_ok (fun K hk => hk)) ?_
  refine reg_nil ?_
  refine seq_n ?_
  refine wc_ret ?_
  exact ⟨trivial, [(64, some 104)], .of rfl rfl rfl rfl rfl ⟨⟨_, rfl, AVLe.of_eq rfl⟩, rfl, trivial⟩ ⟨⟨rfl, rfl, _, rfl, .refl _⟩, trivial⟩⟩
theorem clonei_is (l : List Int) (hp : 0 < l.length) (hlen : l.length ≤ 1048576) : FnIs Tryz.prog 88 [.d (.arr 1 i6 l)] [] (.d (.arr 1 i6 l)) [] := (clonei_ne l hp hlen).freeze_out 64 _ rfl (Frz.own rfl) trivial
theorem clonei_nil : FnIs Tryz.prog 88 [.d (.sc nil_)] [] (.d (.sc nil_)) [] := by
  refine fnIs_of tab_ok Tryz.func88 rfl rfl rfl ?_
  refine wc_seq ?_
  refine wc_region ?_
  refine reg_quiet rfl (step_C tab_ok (fun K hk => hk)) ?_
  refine reg_nil ?_
  refine seq_n ?_
  refine wc_seq ?_
  refine wc_seq ?_
  refine wc_region ?_
  refine reg_quiet rfl (step_C tab_ok (fun K hk => hk)) ?_
  refine reg_quiet rfl (eql_nn tab_ok rfl rfl rfl) ?_
  refine reg_nil ?_
  refine seq_n ?_
  refine wc_true rfl rfl ?_
  refine wc_seq ?_
  refine wc_region ?_
  refine reg_quiet rfl (step_C tab_ok (fun K hk => hk)) ?_
  refine reg_nil ?_
  refine seq_n ?_
  refine wc_ret ?_
  refine seq_r ?_
  exact ⟨trivial, [], .of rfl rfl rfl rfl rfl ⟨⟨_, rfl, AVLe.of_eq rfl⟩, rfl, trivial⟩ trivial⟩
theorem clipi_is (l : List Int) : FnIs Tryz.prog 87 [.d (.arr 1 i6 l)] [] (.d (.arx 1 i6 l)) [] := by
  refine fnIs_of tab_ok Tryz.func87 rfl rfl rfl ?_
  refine wc_seq ?_
  refine wc_region ?_
  refine reg_quiet rfl (step_C tab_ok (fun K hk => hk)) ?_
  refine reg_nil ?_
  refine seq_n ?_
  refine wc_seq ?_
  refine wc_region ?_
  refine reg_quiet rfl (step_C tab_ok (fun K hk => hk)) ?_
  refine reg_quiet rfl (step_C tab_ok (fun K hk => hk)) ?_
  refine reg_quiet rfl (len_arr tab_ok rfl rfl) ?_
  refine reg_quiet rfl (step_C tab_ok (fun K hk => hk)) ?_
  refine reg_quiet rfl (len_arr tab_ok rfl rfl) ?_
  refine reg_quiet rfl (slice_clip_arr tab_ok rfl rfl rfl rfl rfl) ?_
  refine reg_quiet rfl (step_C tab_ok (fun K hk => hk)) ?_
  refine reg_nil ?_
  refine seq_n ?_
  refine wc_ret ?_
  exact ⟨trivial, [], .of rfl rfl rfl rfl rfl ⟨⟨_, rfl, AVLe.of_eq rfl⟩, rfl, trivial⟩ trivial⟩
end Go.Proofs.YtmojbghcngdkpaaGreatDoor
