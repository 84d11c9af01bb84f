/- Frames: the victim, and the examples of the chapter. -/
import Derived.RangeFuncNested
import Derived.RangeFuncBound
import Derived.RangeFuncCalls
import Derived.RangeFuncLeaves
import Derived.Shelf.Abstract
import Derived.Shelf.RegionOpen
import Derived.WalkKit
import Derived.OwnWalkIn
import Derived.TacticsInMore
import Derived.LoopNIn
import Derived.LoopIn
import Derived.Test.YtmdfeekpehcieaaFA
import Derived.Test.YtmdfeekpehcieaaEngB

set_option linter.unusedVariables false
set_option linter.unusedSimpArgs false

/- The iterator that goes round a list. -/
namespace Go.Proofs.Ytmdfeekpehcieaa
open Go.Eng Go.RowKit
set_option maxHeartbeats 1000000

theorem box_cell {σ : Eng.Place} {X : Nat → Prop} {W : World} {r b c : Nat} {t : TypeId} {v : Value} (h : RowRel σ W X r (.box t (.d (.sc v)))) (hb : σ r = some (b, c)) : W.cell? ⟨b, 0, none⟩ = some v := by
  obtain ⟨_, b', cs, h1, h2, h3⟩ := h
  rw [hb] at h1
  cases h1
  obtain ⟨h4, _⟩ := h3
  rw [cell_of_row W b 0 cs t (0, 0) h2, ← Array.getElem?_toList, h4]
  rfl

theorem loop_by {F : Fence} {n : Nat} {P : Program} {Q : Exit → Act → World → Prop} {c : Code} {a : Act} {w : World} (I : Nat → Act → World → Prop) (k : Nat) (h0 : I k a w)
    (step : ∀ m a w, I m a w → c.wpIn F n P (Exit.then (fun a w => ∃ m', m' < m ∧ I m' a w) Q) a w) : (Code.loop c).wpIn F n P Q a w := by
  have key : ∀ m j a w, j ≤ m → I j a w → Code.roundsIn F n P c Q (m + 1) a w := by
    intro m
    induction m with
    | zero =>
      intro j a w hj hi
      rw [roundsIn_succ]
      refine wpIn_mono (step j a w hi) ?_
      intro e a w h
      cases e with
      | normal => obtain ⟨m', h1, _⟩ := h; omega
      | _ => exact h
    | succ m ih =>
      intro j a w hj hi
      rw [roundsIn_succ]
      refine wpIn_mono (step j a w hi) ?_
      intro e a w h
      cases e with
      | normal => obtain ⟨m', h1, h2⟩ := h; exact ih m' a w (by omega) h2
      | _ => exact h
  exact wpIn_loop_rounds (k + 1) (key k k a w (Nat.le_refl _) h0)

theorem round_iter {r1 r2 : Nat} (hne : r1 ≠ r2) (s n : Int) (hs : 0 ≤ s) (hsn : s < n) (hn : n ≤ 1000000) :
    IterIs Try.prog 80 (.acons (.ptr r1 []) (.acons (.ptr r2 []) .anil)) [(r1, .box 3 (.int .i64 s)), (r2, .box 3 (.int .i64 n))] (fun x : Int => .int .i64 x) (fun pre x => x = (s + pre.length) % n) (fun _ => False) := by
  refine ⟨⟨Try.f80, Try.func80, rfl, rfl⟩, fun us l J Jx N w hJ hY h0 => ?_⟩
  have reads : ∀ W, Reads (.acons (.ptr r1 []) (.acons (.ptr r2 []) .anil)) [(r1, .box 3 (.int .i64 s)), (r2, .box 3 (.int .i64 n))] us W →
      ∃ b1 b2, us = [.pointer (some ⟨b1, 0, none⟩), .pointer (some ⟨b2, 0, none⟩)] ∧ W.cell? ⟨b1, 0, none⟩ = some (.int .i64 s) ∧ W.cell? ⟨b2, 0, none⟩ = some (.int .i64 n) := by
    rintro W ⟨σ, X, hc, hr⟩
    obtain ⟨v1, u1, rfl, h1, v2, u2, rfl, h2, rfl⟩ := hc
    rw [if_neg (by simp [AV.isAgg])] at h1 h2
    obtain ⟨b1, c1, hb1, e1⟩ := h1
    obtain ⟨b2, c2, hb2, e2⟩ := h2
    simp only [List.cons.injEq, and_true] at e1 e2
    subst e1 e2
    refine ⟨b1, b2, rfl, box_cell (hr r1 (.box 3 (.int .i64 s)) (by simp [lk_cons])) hb1, box_cell (hr r2 (.box 3 (.int .i64 n)) (by simp [lk_cons, hne])) hb2⟩
  obtain ⟨b1, b2, rfl, hc1, hc2⟩ := reads w (hJ [] w h0).1
  have cells : ∀ pre W, J pre W → W.cell? ⟨b2, 0, none⟩ = some (.int .i64 n) := fun pre W h => by
    obtain ⟨b1', b2', he, _, h2⟩ := reads W (hJ pre W h).1
    simp only [List.cons.injEq, Value.pointer.injEq, Option.some.injEq, Addr.mk.injEq, and_true, true_and] at he
    obtain ⟨rfl, rfl⟩ := he
    exact h2
  refine callsIn_wide.1 (callsIn_of_wp (n := 0) Try.func80 rfl trivial ?_ rfl)
  simp only [show Try.f80.ntmps = 13 from rfl, List.size_toArray, List.length_cons, List.length_nil, Nat.reduceAdd, Nat.reduceSub, Array.replicate_succ, Array.replicate_zero, List.push_toArray, List.append_toArray, List.nil_append, List.cons_append]
  gi_wp2
  refine loop_by (fun m a W => ∃ (pre : List Int) (v5 v6 v7 v8 v9 v10 v11 v12 : Value), m + pre.length = N + 1 ∧ J pre W ∧
    a = { tmps := #[.func (.yield l) #[] #[], .pointer (some ⟨b1, 0, none⟩), .pointer (some ⟨b2, 0, none⟩), undef, .int .i64 ((s + pre.length) % n), v5, v6, v7, v8, v9, v10, v11, v12], defers := [] }) (N + 1) ?start ?round
  case start => 
    refine ⟨[], .int .i64 s, undef, undef, undef, undef, undef, undef, undef, by simp, h0, ?_⟩
    simp [Int.emod_eq_of_lt hs hsn]
  case round =>
    rintro m a W ⟨pre, v5, v6, v7, v8, v9, v10, v11, v12, hm, hJs, rfl⟩
    obtain ⟨fn, tmps, assign, body, hy, hR⟩ := hY pre _ W hJs rfl
    gi_wp2
    refine ⟨rfl, hR.mono ?_⟩
    rintro e W' (⟨rfl, hJ'⟩ | ⟨rfl, hJx⟩)
    · have hc' := cells _ W' hJ'
      have hlen := (hJ _ W' hJ').2
      have hn0 : n ≠ 0 := by omega
      have hm0 := Int.emod_nonneg (s + pre.length) hn0
      have hm1 := Int.emod_lt_of_pos (s + pre.length) (show 0 < n by omega)
      gi_wp2
      simp only [List.length_append, List.length_singleton] at hlen
      have he : (s + ((pre ++ [(s + pre.length) % n]).length : Int)) % n = ((s + pre.length) % n + 1) % n := by rw [Int.emod_add_emod]; simp [Int.add_assoc]
      rw [← he]
      exact ⟨m - 1, by omega, pre ++ [(s + pre.length) % n], _, _, _, _, _, _, _, _, by simp; omega, hJ', rfl⟩
    · gi_wp2
      go_end0
      exact ⟨⟨_, rfl⟩, .inr ⟨_, hJx⟩⟩
end Go.Proofs.Ytmdfeekpehcieaa

/- The clock: the hand goes round the list, and takes Ref from evictable frames, until one has none. -/
namespace Go.Proofs.Ytmdfeekpehcieaa
open Go.Eng
def bump (s : List Frame) (x : Nat) : List Frame := match s[x]? with
  | some f => if evB f = true then s.set x { f with ref := false } else s
  | none => s
def sweep (l : List Frame) (hand : Nat) : Nat → List Frame
  | 0 => l
  | k + 1 => bump (sweep l hand k) ((hand + k) % l.length)
def stopB (l : List Frame) (hand k : Nat) : Bool := match (sweep l hand k)[(hand + k) % l.length]? with
  | some f => evB f && !f.ref
  | none => false
def clockK (l : List Frame) (hand : Nat) : Nat → Nat → Nat
  | 0, k => k
  | fuel + 1, k => bif stopB l hand k then k else clockK l hand fuel (k + 1)
def clock (l : List Frame) (hand : Nat) : Nat := clockK l hand (2 * l.length + 1) 0

theorem bump_len (s : List Frame) (x : Nat) : (bump s x).length = s.length := by
  unfold bump
  split
  · split <;> simp
  · rfl
theorem sweep_len (l : List Frame) (hand k : Nat) : (sweep l hand k).length = l.length := by
  induction k with
  | zero => rfl
  | succ k ih => simp only [sweep, bump_len, ih]
theorem evB_ref (f : Frame) (b : Bool) : evB { f with ref := b } = evB f := rfl

/-- A frame in a sweep is the old one, but for Ref. -/
theorem bump_at {s : List Frame} {x e : Nat} {f : Frame} (h : s[e]? = some f) : (bump s x)[e]? = some (if x = e ∧ evB f = true then { f with ref := false } else f) := by
  unfold bump
  cases hx : s[x]? with
  | none =>
    have : ¬ x = e := by rintro rfl; rw [h] at hx; cases hx
    simp [this, h]
  | some g =>
    by_cases hxe : x = e
    · subst hxe
      rw [h] at hx
      cases hx
      by_cases hv : evB f = true
      · have := (List.getElem?_eq_some_iff.1 h).1
        simp [hv, this]
      · simp [hv, h]
    · by_cases hv : evB g = true
      · simp [hv, hxe, h, List.getElem?_set]
      · simp [hv, hxe, h]
theorem sweep_at (l : List Frame) (hand e : Nat) (f : Frame) (h : l[e]? = some f) : ∀ k, (sweep l hand k)[e]? = some (if evB f = true ∧ ∃ j, j < k ∧ (hand + j) % l.length = e then { f with ref := false } else f)
  | 0 => by simp [sweep, h]
  | k + 1 => by
    have ih := sweep_at l hand e f h k
    rw [sweep, bump_at ih]
    by_cases hv : evB f = true
    · by_cases hj : ∃ j, j < k ∧ (hand + j) % l.length = e
      · have hj' : ∃ j, j < k + 1 ∧ (hand + j) % l.length = e := by obtain ⟨j, h1, h2⟩ := hj; exact ⟨j, by omega, h2⟩
        simp only [hv, hj, hj', and_self, if_true, evB_ref]
        split <;> rfl
      · by_cases hk : (hand + k) % l.length = e
        · have hj' : ∃ j, j < k + 1 ∧ (hand + j) % l.length = e := ⟨k, by omega, hk⟩
          simp [hv, hj, hj', hk]
        · have hj' : ¬ ∃ j, j < k + 1 ∧ (hand + j) % l.length = e := by
            rintro ⟨j, h1, h2⟩
            rcases Nat.lt_or_ge j k with h3 | h3
            · exact hj ⟨j, h3, h2⟩
            · have : j = k := by omega
              subst this; exact hk h2
          simp [hv, hj, hj', hk]
    · simp [hv]

theorem stopB_of {l : List Frame} {hand k : Nat} {f : Frame} (h : (sweep l hand k)[(hand + k) % l.length]? = some f) : stopB l hand k = (evB f && !f.ref) := by
  simp only [stopB, h]

/-- Twice round, at most. -/
theorem clock_bound {l : List Frame} {hand k : Nat} (hany : l.any evB = true) (hk : ∀ j, j < k → stopB l hand j = false) : k ≤ 2 * l.length := by
  rcases Nat.lt_or_ge (2 * l.length) k with hlt | hge
  · exfalso
    obtain ⟨f, hf, hv⟩ := List.any_eq_true.1 hany
    obtain ⟨e, he, rfl⟩ := List.getElem_of_mem hf
    have hpos : 0 < l.length := by omega
    -- the hand comes to e
    obtain ⟨j, hj, hje⟩ : ∃ j, j < l.length ∧ (hand + j) % l.length = e := by
      have hm := Nat.mod_lt hand hpos
      rcases Nat.lt_or_ge e (hand % l.length) with h1 | h1
      · refine ⟨e + l.length - hand % l.length, by omega, ?_⟩
        rw [Nat.add_mod, ← Nat.mod_add_mod]
        have : hand % l.length % l.length + (e + l.length - hand % l.length) % l.length = e + l.length := by
          rw [Nat.mod_mod, Nat.mod_eq_of_lt (show e + l.length - hand % l.length < l.length by omega)]; omega
        rw [Nat.mod_mod]
        rw [Nat.mod_mod] at this
        rw [this]
        simp [Nat.mod_eq_of_lt he]
      · refine ⟨e - hand % l.length, by omega, ?_⟩
        rw [Nat.add_mod]
        rw [Nat.mod_eq_of_lt (show e - hand % l.length < l.length by omega)]
        rw [show hand % l.length + (e - hand % l.length) = e by omega]
        exact Nat.mod_eq_of_lt he
    have h2 : (hand + (j + l.length)) % l.length = e := by rw [← Nat.add_assoc, Nat.add_mod_right]; exact hje
    have hs := sweep_at l hand e l[e] (by simp) (j + l.length)
    rw [if_pos ⟨hv, j, by omega, hje⟩] at hs
    have := hk (j + l.length) (by omega)
    rw [stopB_of (by rw [h2]; exact hs)] at this
    simp [evB_ref, hv] at this
  · exact hge

theorem clockK_hit {l : List Frame} {hand k : Nat} (hs : stopB l hand k = true) : ∀ (fuel k0 : Nat), k0 ≤ k → k < k0 + fuel → (∀ j, k0 ≤ j → j < k → stopB l hand j = false) → clockK l hand fuel k0 = k
  | 0, k0, h1, h2, _ => by omega
  | fuel + 1, k0, h1, h2, h3 => by
    rcases Nat.lt_or_ge k0 k with h4 | h4
    · rw [clockK, h3 k0 (Nat.le_refl _) h4]
      exact clockK_hit hs fuel (k0 + 1) h4 (by omega) fun j h5 h6 => h3 j (by omega) h6
    · have : k0 = k := by omega
      subst this
      rw [clockK, hs]
      rfl
theorem clock_hit {l : List Frame} {hand k : Nat} (hany : l.any evB = true) (hk : ∀ j, j < k → stopB l hand j = false) (hs : stopB l hand k = true) : clock l hand = k :=
  clockK_hit hs _ 0 (Nat.zero_le _) (by have := clock_bound hany hk; omega) fun j _ h => hk j h
end Go.Proofs.Ytmdfeekpehcieaa

/- The victim. -/
namespace Go.Proofs.Ytmdfeekpehcieaa
open Go.Eng
set_option maxHeartbeats 1000000
attribute [local irreducible] WC RegS RegD SeqQ BlkQ ScoQ RegK CutK Sat SatN FnIs LoopQ StepIs OpIs
abbrev tup4 (a b c d : AV) : AV := .tup (.acons a (.acons b (.acons c (.acons d .anil))))
theorem round_is (n s : Int) : FnIs Try.prog 56 [.d (i6 n), .d (i6 s)] [] (.fn (.func 80) .anil (.acons (.ptr 64 []) (.acons (.ptr 65 []) .anil))) [(64, .box 3 (.int .i64 s)), (65, .box 3 (.int .i64 n))] := by
  refine fnIs_of tab_ok Try.func56 rfl rfl rfl ?_
  refine wc_seq ?_
  refine wc_region ?_
  refine reg_new (step_C tab_ok (fun K hk => hk)) rfl ?_
  refine reg_new (step_C tab_ok (fun K hk => hk)) rfl ?_
  refine reg_quiet rfl (step_C tab_ok (fun K hk => hk)) ?_
  refine reg_nil ?_
  refine seq_n ?_
  refine wc_seq ?_
  refine wc_region ?_
  refine reg_quiet rfl (step_C tab_ok (fun K hk => hk)) ?_
  refine reg_quiet rfl (step_C tab_ok (fun K hk => hk)) ?_
  refine reg_nil ?_
  refine seq_n ?_
  refine wc_ret ?_
  exact ⟨trivial, [(64, some 72), (65, some 64)], .of rfl rfl rfl rfl rfl ⟨⟨_, rfl, AVLe.of_eq rfl⟩, rfl, trivial⟩ ⟨⟨rfl, rfl, _, rfl, .refl _⟩, ⟨rfl, rfl, _, rfl, .refl _⟩, trivial⟩⟩
theorem victim_arg (l : List Frame) (hand : Int) (hc : (decide (hand < 0) || decide (hand ≥ l.length)) = true) : FnIs Try.prog 16 [.d (.arr 40 encFrame l), .d (i6 hand)] [] (tup4 (.int .i64 0) (.d (.sc (.slice none 0 0))) (.int .i64 0) (.int .i64 1)) [] := by
  refine fnIs_of tab_ok Try.func16 rfl rfl rfl ?_
  refine wc_seq ?_
  refine wc_region ?_
  refine reg_new (step_C tab_ok (fun K hk => hk)) rfl ?_
  refine reg_new (step_C tab_ok (fun K hk => hk)) rfl ?_
  refine reg_quiet rfl (step_C tab_ok (fun K hk => hk)) ?_
  refine reg_quiet rfl (step_C tab_ok (fun K hk => hk)) ?_
  refine reg_nil ?_
  refine seq_n ?_
  refine wc_scope ?_
  refine wc_seq ?_
  refine wc_block ?_
  refine wc_seq_cut 11 (.bool (decide ((hand : Int) < 0) || decide ((hand : Int) ≥ l.length))) _ rfl ?_ ?_
  · refine reg_quiet rfl (step_C tab_ok (fun K hk => hk)) ?_
    refine reg_quiet rfl (step_C tab_ok (fun K hk => hk)) ?_
    refine reg_quiet rfl (step_C tab_ok (fun K hk => hk)) ?_
    refine reg_split rfl rfl rfl (fun hb => ?_) (fun hb => ?_)
    refine reg_on rfl rfl (by assumption) ?_
    refine reg_quiet rfl (step_C tab_ok (fun K hk => hk)) ?_
    refine reg_on rfl rfl (by assumption) ?_
    refine reg_quiet rfl (step_C tab_ok (fun K hk => hk)) ?_
    refine reg_on rfl rfl (by assumption) ?_
    refine reg_quiet rfl (len_arr tab_ok rfl rfl) ?_
    refine reg_on rfl rfl (by assumption) ?_
    refine reg_quiet rfl (step_C tab_ok (fun K hk => hk)) ?_
    refine reg_quiet rfl (pick_F tab_ok rfl (by assumption) rfl) ?_
    refine reg_quiet rfl (step_C tab_ok (fun K hk => hk)) ?_
    rotate_left
    refine reg_skip rfl rfl (by assumption) rfl rfl ?_
    refine reg_skip rfl rfl (by assumption) rfl rfl ?_
    refine reg_skip rfl rfl (by assumption) rfl rfl ?_
    refine reg_skip rfl rfl (by assumption) rfl rfl ?_
    refine reg_quiet rfl (pick_T tab_ok rfl (by assumption) rfl) ?_
    refine reg_quiet rfl (step_C tab_ok (fun K hk => hk)) ?_
    rotate_left
    all_goals refine reg_cut 9 rfl rfl rfl rfl rfl rfl rfl rfl rfl (AVLe.of_eq ?_)
    all_goals (first | rfl | (simp_all; done) | (grind))
  refine wc_true rfl (by assumption) ?_
  refine wc_seq ?_
  refine wc_region ?_
  refine reg_store (store_row tab_ok rfl rfl rfl ⟨_, ⟨rfl, rfl, rfl⟩, rfl⟩ rfl) ?_
  refine reg_store (store_row tab_ok rfl rfl rfl ⟨_, ⟨rfl, rfl, rfl⟩, rfl⟩ rfl) ?_
  refine reg_quiet rfl (step_C tab_ok (fun K hk => hk)) ?_
  refine reg_quiet rfl (step_C tab_ok (fun K hk => hk)) ?_
  refine reg_nil ?_
  refine seq_n ?_
  refine wc_ret ?_
  refine blk_r ?_
  refine seq_r ?_
  refine sco_r ?_
  exact ⟨trivial, _, rfl, _, rfl, [], .of rfl rfl rfl rfl rfl ⟨⟨_, rfl, AVLe.of_eq rfl⟩, rfl, trivial⟩ trivial⟩
theorem victim_none (l : List Frame) (hand : Int) (hlen : l.length ≤ 1000000) (hc : (decide (hand < 0) || decide (hand ≥ l.length)) = false) (hx : (!l.any fun f => !f.used || evB f) = true) : FnIs Try.prog 16 [.d (.arr 40 encFrame l), .d (i6 hand)] [] (tup4 (.int .i64 0) (.d (.sc (.slice none 0 0))) (.int .i64 0) (.int .i64 11)) [] := by
  refine fnIs_of tab_ok Try.func16 rfl rfl rfl ?_
  refine wc_seq ?_
  refine wc_region ?_
  refine reg_new (step_C tab_ok (fun K hk => hk)) rfl ?_
  refine reg_new (step_C tab_ok (fun K hk => hk)) rfl ?_
  refine reg_quiet rfl (step_C tab_ok (fun K hk => hk)) ?_
  refine reg_quiet rfl (step_C tab_ok (fun K hk => hk)) ?_
  refine reg_nil ?_
  refine seq_n ?_
  refine wc_scope ?_
  refine wc_seq ?_
  refine wc_block ?_
  refine wc_seq_cut 11 (.bool (decide ((hand : Int) < 0) || decide ((hand : Int) ≥ l.length))) _ rfl ?_ ?_
  · refine reg_quiet rfl (step_C tab_ok (fun K hk => hk)) ?_
    refine reg_quiet rfl (step_C tab_ok (fun K hk => hk)) ?_
    refine reg_quiet rfl (step_C tab_ok (fun K hk => hk)) ?_
    refine reg_split rfl rfl rfl (fun hb => ?_) (fun hb => ?_)
    refine reg_on rfl rfl (by assumption) ?_
    refine reg_quiet rfl (step_C tab_ok (fun K hk => hk)) ?_
    refine reg_on rfl rfl (by assumption) ?_
    refine reg_quiet rfl (step_C tab_ok (fun K hk => hk)) ?_
    refine reg_on rfl rfl (by assumption) ?_
    refine reg_quiet rfl (len_arr tab_ok rfl rfl) ?_
    refine reg_on rfl rfl (by assumption) ?_
    refine reg_quiet rfl (step_C tab_ok (fun K hk => hk)) ?_
    refine reg_quiet rfl (pick_F tab_ok rfl (by assumption) rfl) ?_
    refine reg_quiet rfl (step_C tab_ok (fun K hk => hk)) ?_
    rotate_left
    refine reg_skip rfl rfl (by assumption) rfl rfl ?_
    refine reg_skip rfl rfl (by assumption) rfl rfl ?_
    refine reg_skip rfl rfl (by assumption) rfl rfl ?_
    refine reg_skip rfl rfl (by assumption) rfl rfl ?_
    refine reg_quiet rfl (pick_T tab_ok rfl (by assumption) rfl) ?_
    refine reg_quiet rfl (step_C tab_ok (fun K hk => hk)) ?_
    rotate_left
    all_goals refine reg_cut 9 rfl rfl rfl rfl rfl rfl rfl rfl rfl (AVLe.of_eq ?_)
    all_goals (first | rfl | (simp_all; done) | (grind))
  refine wc_false rfl (by assumption) ?_
  refine wc_seq ?_
  refine wc_region ?_
  refine reg_quiet rfl (step_C tab_ok (fun K hk => hk)) ?_
  refine reg_quiet rfl (call_r (exists_is l hlen) rfl rfl (arg_e arg_nil) (.inl rfl) (fun _ => rfl)) ?_
  refine reg_quiet rfl (step_C tab_ok (fun K hk => hk)) ?_
  refine reg_quiet rfl (step_C tab_ok (fun K hk => hk)) ?_
  refine reg_nil ?_
  refine seq_n ?_
  refine wc_true rfl (by assumption) ?_
  refine wc_seq ?_
  refine wc_region ?_
  refine reg_store (store_row tab_ok rfl rfl rfl ⟨_, ⟨rfl, rfl, rfl⟩, rfl⟩ rfl) ?_
  refine reg_store (store_row tab_ok rfl rfl rfl ⟨_, ⟨rfl, rfl, rfl⟩, rfl⟩ rfl) ?_
  refine reg_quiet rfl (step_C tab_ok (fun K hk => hk)) ?_
  refine reg_quiet rfl (step_C tab_ok (fun K hk => hk)) ?_
  refine reg_nil ?_
  refine seq_n ?_
  refine wc_ret ?_
  refine blk_r ?_
  refine seq_r ?_
  refine sco_r ?_
  exact ⟨trivial, _, rfl, _, rfl, [], .of rfl rfl rfl rfl rfl ⟨⟨_, rfl, AVLe.of_eq rfl⟩, rfl, trivial⟩ trivial⟩
theorem victim_unused (l : List Frame) (hand : Int) (hlen : l.length ≤ 1000000) (hc : (decide (hand < 0) || decide (hand ≥ l.length)) = false) (hx : (!l.any fun f => !f.used || evB f) = false) (hu : (l.any fun f => !f.used) = true) :
    FnIs Try.prog 16 [.d (.arr 40 encFrame l), .d (i6 hand)] [] (tup4 (.int .i64 (if fidx (fun f => !f.used) l < 0 then 0 else fidx (fun f => !f.used) l)) (.own 64 0 l.length 40 none) (.int .i64 hand) (.int .i64 0)) [(64, .ds 39 40 true encFrame l)] := by
  have hlen2 : l.length ≤ 1048576 := by omega
  have hcopy : l.take (List.replicate l.length zeroFrame).length ++ (List.replicate l.length zeroFrame).drop l.length = l := by simp
  refine fnIs_of tab_ok Try.func16 rfl rfl rfl ?_
  refine wc_seq ?_
  refine wc_region ?_
  refine reg_new (step_C tab_ok (fun K hk => hk)) rfl ?_
  refine reg_new (step_C tab_ok (fun K hk => hk)) rfl ?_
  refine reg_quiet rfl (step_C tab_ok (fun K hk => hk)) ?_
  refine reg_quiet rfl (step_C tab_ok (fun K hk => hk)) ?_
  refine reg_nil ?_
  refine seq_n ?_
  refine wc_scope ?_
  refine wc_seq ?_
  refine wc_block ?_
  refine wc_seq_cut 11 (.bool (decide ((hand : Int) < 0) || decide ((hand : Int) ≥ l.length))) _ rfl ?_ ?_
  · refine reg_quiet rfl (step_C tab_ok (fun K hk => hk)) ?_
    refine reg_quiet rfl (step_C tab_ok (fun K hk => hk)) ?_
    refine reg_quiet rfl (step_C tab_ok (fun K hk => hk)) ?_
    refine reg_split rfl rfl rfl (fun hb => ?_) (fun hb => ?_)
    refine reg_on rfl rfl (by assumption) ?_
    refine reg_quiet rfl (step_C tab_ok (fun K hk => hk)) ?_
    refine reg_on rfl rfl (by assumption) ?_
    refine reg_quiet rfl (step_C tab_ok (fun K hk => hk)) ?_
    refine reg_on rfl rfl (by assumption) ?_
    refine reg_quiet rfl (len_arr tab_ok rfl rfl) ?_
    refine reg_on rfl rfl (by assumption) ?_
    refine reg_quiet rfl (step_C tab_ok (fun K hk => hk)) ?_
    refine reg_quiet rfl (pick_F tab_ok rfl (by assumption) rfl) ?_
    refine reg_quiet rfl (step_C tab_ok (fun K hk => hk)) ?_
    rotate_left
    refine reg_skip rfl rfl (by assumption) rfl rfl ?_
    refine reg_skip rfl rfl (by assumption) rfl rfl ?_
    refine reg_skip rfl rfl (by assumption) rfl rfl ?_
    refine reg_skip rfl rfl (by assumption) rfl rfl ?_
    refine reg_quiet rfl (pick_T tab_ok rfl (by assumption) rfl) ?_
    refine reg_quiet rfl (step_C tab_ok (fun K hk => hk)) ?_
    rotate_left
    all_goals refine reg_cut 9 rfl rfl rfl rfl rfl rfl rfl rfl rfl (AVLe.of_eq ?_)
    all_goals (first | rfl | (simp_all; done) | (grind))
  refine wc_false rfl (by assumption) ?_
  refine wc_seq ?_
  refine wc_region ?_
  refine reg_quiet rfl (step_C tab_ok (fun K hk => hk)) ?_
  refine reg_quiet rfl (call_r (exists_is l hlen) rfl rfl (arg_e arg_nil) (.inl rfl) (fun _ => rfl)) ?_
  refine reg_quiet rfl (step_C tab_ok (fun K hk => hk)) ?_
  refine reg_quiet rfl (step_C tab_ok (fun K hk => hk)) ?_
  refine reg_nil ?_
  refine seq_n ?_
  refine wc_false rfl (by assumption) ?_
  refine wc_skip ?_
  refine blk_n ?_
  refine seq_n ?_
  refine wc_seq ?_
  refine wc_region ?_
  refine reg_quiet rfl (step_C tab_ok (fun K hk => hk)) ?_
  refine reg_quiet rfl (len_arr tab_ok rfl rfl) ?_
  refine reg_new (make_full (enc := encFrame) (s := 40) tab_ok zeroFrame rfl rfl rfl rfl rfl rfl rfl hlen2 rfl) rfl ?_
  refine reg_store (store_row tab_ok rfl rfl rfl ⟨_, ⟨rfl, rfl, rfl⟩, rfl⟩ rfl) ?_
  refine reg_nil ?_
  refine seq_n ?_
  refine wc_seq ?_
  refine wc_region ?_
  refine reg_quiet rfl (load_box tab_ok rfl rfl rfl rfl) ?_
  refine reg_quiet rfl (step_C tab_ok (fun K hk => hk)) ?_
  refine reg_new (copy_arr (s := 40) (xs := List.replicate l.length zeroFrame) tab_ok rfl rfl rfl rfl (by rw [List.length_replicate]; rfl) rfl rfl hcopy (by rw [List.length_replicate, Nat.min_self])) rfl ?_
  refine reg_nil ?_
  refine seq_n ?_
  refine wc_seq ?_
  refine wc_seq ?_
  refine wc_region ?_
  refine reg_quiet rfl (step_C tab_ok (fun K hk => hk)) ?_
  refine reg_quiet rfl (call_r (first_is 55 _ victim1_is l hlen) rfl rfl (arg_e (arg_fn arg_nil)) (.inl rfl) (fun _ => rfl)) ?_
  refine reg_quiet rfl (step_C tab_ok (fun K hk => hk)) ?_
  refine reg_quiet rfl (step_C tab_ok (fun K hk => hk)) ?_
  refine reg_quiet rfl (step_C tab_ok (fun K hk => hk)) ?_
  refine reg_quiet rfl (step_C tab_ok (fun K hk => hk)) ?_
  refine reg_quiet rfl (step_C tab_ok (fun K hk => hk)) ?_
  refine reg_nil ?_
  refine seq_n ?_
  refine wc_seq ?_
  refine wc_region ?_
  refine reg_quiet rfl (step_C tab_ok (fun K hk => hk)) ?_
  refine reg_nil ?_
  refine seq_n ?_
  refine wc_true rfl (by assumption) ?_
  refine wc_seq ?_
  refine wc_draw (by kernel_rfl) ?_
  refine dreg_step rfl (step_C tab_ok (fun K hk => hk)) rfl rfl ?_
  refine dreg_step rfl (load_box tab_ok rfl rfl rfl rfl) rfl rfl ?_
  refine dreg_step rfl (step_C tab_ok (fun K hk => hk)) rfl rfl ?_
  refine dreg_step rfl (store_row tab_ok rfl rfl rfl ⟨_, ⟨rfl, rfl, rfl⟩, rfl⟩ rfl) rfl rfl ?_
  refine dreg_step rfl (store_row tab_ok rfl rfl rfl ⟨_, ⟨rfl, rfl, rfl⟩, rfl⟩ rfl) rfl rfl ?_
  refine dreg_step rfl (step_C tab_ok (fun K hk => hk)) rfl rfl ?_
  refine dreg_step rfl (step_C tab_ok (fun K hk => hk)) rfl rfl ?_
  refine dreg_nil (by kernel_rfl) ?_
  refine seq_n ?_
  refine wc_ret ?_
  refine seq_r ?_
  refine sco_r ?_
  exact ⟨trivial, _, rfl, _, rfl, [(64, some 216)], .of rfl rfl rfl rfl rfl ⟨⟨_, rfl, AVLe.of_eq rfl⟩, rfl, trivial⟩ ⟨⟨rfl, rfl, _, rfl, .refl _⟩, trivial⟩⟩
def clkH (l : List Frame) (hand : Nat) (k : Nat) : List (Nat × Row) := [(0, .box 3 (.int .i64 0)), (1, .box 22 (.own 2 0 l.length 40 none)), (2, .ds 39 40 true encFrame (sweep l hand k))]
def clkU (l : List Frame) (hand : Nat) (k : Nat) : Upds := [(64, some (.box 3 (.int .i64 0))), (65, some (.box 22 (.own 66 0 l.length 40 none))), (66, some (.ds 39 40 true encFrame (sweep l hand k))), (67, some (.box 3 (.int .i64 hand))), (68, some (.box 3 (.int .i64 l.length)))]
theorem victim_clock (l : List Frame) (hand : Nat) (hlen : l.length ≤ 1000000) (hc : (decide ((hand : Int) < 0) || decide ((hand : Int) ≥ l.length)) = false) (hx : (!l.any fun f => !f.used || evB f) = false) (hu : (l.any fun f => !f.used) = false) :
    FnIs Try.prog 16 [.d (.arr 40 encFrame l), .d (i6 hand)] [] (tup4 (.int .i64 ((hand + clock l hand) % l.length : Nat)) (.own 64 0 l.length 40 none) (.int .i64 (((hand + clock l hand) % l.length + 1) % l.length : Nat)) (.int .i64 0)) [(64, .ds 39 40 true encFrame (sweep l hand (clock l hand)))] := by
  have hlen2 : l.length ≤ 1048576 := by omega
  have hcopy : l.take (List.replicate l.length zeroFrame).length ++ (List.replicate l.length zeroFrame).drop l.length = l := by simp
  have hh : hand < l.length := by simp only [Bool.or_eq_false_iff, decide_eq_false_iff_not] at hc; omega
  have hev : l.any evB = true := by
    rw [Bool.not_eq_false', List.any_eq_true] at hx
    obtain ⟨f, hf, hp⟩ := hx
    have h2 := List.any_eq_false.1 hu f hf
    refine List.any_eq_true.2 ⟨f, hf, ?_⟩
    cases hfu : f.used <;> simp_all
  refine fnIs_of tab_ok Try.func16 rfl rfl rfl ?_
  refine wc_seq ?_
  refine wc_region ?_
  refine reg_new (step_C tab_ok (fun K hk => hk)) rfl ?_
  refine reg_new (step_C tab_ok (fun K hk => hk)) rfl ?_
  refine reg_quiet rfl (step_C tab_ok (fun K hk => hk)) ?_
  refine reg_quiet rfl (step_C tab_ok (fun K hk => hk)) ?_
  refine reg_nil ?_
  refine seq_n ?_
  refine wc_scope ?_
  refine wc_seq ?_
  refine wc_block ?_
  refine wc_seq_cut 11 (.bool (decide ((hand : Int) < 0) || decide ((hand : Int) ≥ l.length))) _ rfl ?_ ?_
  · refine reg_quiet rfl (step_C tab_ok (fun K hk => hk)) ?_
    refine reg_quiet rfl (step_C tab_ok (fun K hk => hk)) ?_
    refine reg_quiet rfl (step_C tab_ok (fun K hk => hk)) ?_
    refine reg_on rfl rfl rfl ?_
    refine reg_quiet rfl (step_C tab_ok (fun K hk => hk)) ?_
    refine reg_on rfl rfl rfl ?_
    refine reg_quiet rfl (step_C tab_ok (fun K hk => hk)) ?_
    refine reg_on rfl rfl rfl ?_
    refine reg_quiet rfl (len_arr tab_ok rfl rfl) ?_
    refine reg_on rfl rfl rfl ?_
    refine reg_quiet rfl (step_C tab_ok (fun K hk => hk)) ?_
    refine reg_quiet rfl (pick_F tab_ok rfl rfl rfl) ?_
    refine reg_quiet rfl (step_C tab_ok (fun K hk => hk)) ?_
    all_goals refine reg_cut 9 rfl rfl rfl rfl rfl rfl rfl rfl rfl (AVLe.of_eq ?_)
    all_goals (first | rfl | (simp_all; done) | (grind))
  refine wc_false rfl (by assumption) ?_
  refine wc_seq ?_
  refine wc_region ?_
  refine reg_quiet rfl (step_C tab_ok (fun K hk => hk)) ?_
  refine reg_quiet rfl (call_r (exists_is l hlen) rfl rfl (arg_e arg_nil) (.inl rfl) (fun _ => rfl)) ?_
  refine reg_quiet rfl (step_C tab_ok (fun K hk => hk)) ?_
  refine reg_quiet rfl (step_C tab_ok (fun K hk => hk)) ?_
  refine reg_nil ?_
  refine seq_n ?_
  refine wc_false rfl (by assumption) ?_
  refine wc_skip ?_
  refine blk_n ?_
  refine seq_n ?_
  refine wc_seq ?_
  refine wc_region ?_
  refine reg_quiet rfl (step_C tab_ok (fun K hk => hk)) ?_
  refine reg_quiet rfl (len_arr tab_ok rfl rfl) ?_
  refine reg_new (make_full (enc := encFrame) (s := 40) tab_ok zeroFrame rfl rfl rfl rfl rfl rfl rfl hlen2 rfl) rfl ?_
  refine reg_store (store_row tab_ok rfl rfl rfl ⟨_, ⟨rfl, rfl, rfl⟩, rfl⟩ rfl) ?_
  refine reg_nil ?_
  refine seq_n ?_
  refine wc_seq ?_
  refine wc_region ?_
  refine reg_quiet rfl (load_box tab_ok rfl rfl rfl rfl) ?_
  refine reg_quiet rfl (step_C tab_ok (fun K hk => hk)) ?_
  refine reg_new (copy_arr (s := 40) (xs := List.replicate l.length zeroFrame) tab_ok rfl rfl rfl rfl (by rw [List.length_replicate]; rfl) rfl rfl hcopy (by rw [List.length_replicate, Nat.min_self])) rfl ?_
  refine reg_nil ?_
  refine seq_n ?_
  refine wc_seq ?_
  refine wc_seq ?_
  refine wc_region ?_
  refine reg_quiet rfl (step_C tab_ok (fun K hk => hk)) ?_
  refine reg_quiet rfl (call_r (first_is 55 _ victim1_is l hlen) rfl rfl (arg_e (arg_fn arg_nil)) (.inl rfl) (fun _ => rfl)) ?_
  refine reg_quiet rfl (step_C tab_ok (fun K hk => hk)) ?_
  refine reg_quiet rfl (step_C tab_ok (fun K hk => hk)) ?_
  refine reg_quiet rfl (step_C tab_ok (fun K hk => hk)) ?_
  refine reg_quiet rfl (step_C tab_ok (fun K hk => hk)) ?_
  refine reg_quiet rfl (step_C tab_ok (fun K hk => hk)) ?_
  refine reg_nil ?_
  refine seq_n ?_
  refine wc_seq ?_
  refine wc_region ?_
  refine reg_quiet rfl (step_C tab_ok (fun K hk => hk)) ?_
  refine reg_nil ?_
  refine seq_n ?_
  refine wc_false rfl (by assumption) ?_
  refine wc_skip ?_
  refine seq_n ?_
  refine wc_seq ?_
  refine wc_label ?_
  refine seq_n ?_
  refine wc_seq ?_
  refine wc_seq ?_
  refine wc_region ?_
  refine reg_quiet rfl (step_C tab_ok (fun K hk => hk)) ?_
  refine reg_quiet rfl (len_arr tab_ok rfl rfl) ?_
  refine reg_quiet rfl (step_C tab_ok (fun K hk => hk)) ?_
  refine reg_new2 (call_new (round_is _ _) rfl rfl (arg_e (arg_e arg_nil)) (.inl rfl) rfl rfl) rfl ?_
  refine reg_nil ?_
  refine seq_n ?_
  refine wc_block ?_
  refine wc_le 72 [(64, some 64), (65, some 72), (66, some 216), (67, some 344), (68, some 345)] (env' := [(42, .fn (.func 80) .anil (.acons (.ptr 67 []) (.acons (.ptr 68 []) .anil))), (4, .ptr 64 []), (5, .ptr 65 []), (0, .d (.arr 40 encFrame l))]) (h' := clkU l hand 0)
    (.of rfl rfl rfl rfl rfl ⟨⟨_, rfl, .refl _⟩, rfl, ⟨_, rfl, .refl _⟩, rfl, ⟨_, rfl, .refl _⟩, rfl, ⟨_, rfl, .refl _⟩, rfl, trivial⟩ ⟨⟨rfl, rfl, _, rfl, .refl _⟩, ⟨rfl, rfl, _, rfl, .refl _⟩, ⟨rfl, rfl, _, rfl, .refl _⟩, ⟨rfl, rfl, _, rfl, .refl _⟩, ⟨rfl, rfl, _, rfl, .refl _⟩, trivial⟩) ?_
  refine wc_range (enc := fun x : Int => .int .i64 x) (fun _ => rfl) [(0, some 64), (1, some 65), (2, some 66)] [4, 5] [.ptr 0 [], .ptr 1 []] (fun pre => clkH l hand pre.length) (fun pre => clkU l hand pre.length) (fun pre => ∀ j, j < pre.length → stopB l hand j = false) (2 * l.length)
    (round_iter (r1 := 67) (r2 := 68) (by decide) hand l.length (by omega) (by omega) (by omega)) rfl rfl (fun j hj => absurd hj (Nat.not_lt_zero _)) rfl ?_ (fun pre h => clock_bound hev h)
    [.ptr 64 [], .ptr 65 []] rfl (fun _ _ => arg_ptr rfl rfl (arg_ptr rfl rfl arg_nil)) (fun _ _ => ⟨⟨rfl, rfl, _, _, rfl, rfl, .refl _⟩, ⟨rfl, rfl, _, _, rfl, rfl, .refl _⟩, ⟨rfl, rfl, _, _, rfl, rfl, .refl _⟩, trivial⟩) (fun _ _ => rfl) (fun _ _ => rfl) rfl ⟨rfl, rfl⟩ rfl ?_ (fun _ _ h => h.elim)
  · intro pre _ r row hr
    simp only [lk_cons] at hr
    split at hr
    · rename_i e; subst e; cases hr; rfl
    · split at hr
      · rename_i e; subst e; cases hr; rfl
      · cases hr
  · intro pre x hinv hxe
    obtain ⟨k, hk⟩ : ∃ k, pre.length = k := ⟨_, rfl⟩
    obtain ⟨m, hm⟩ : ∃ m, (hand + k) % l.length = m := ⟨_, rfl⟩
    have hm1 : m < l.length := by rw [← hm]; exact Nat.mod_lt _ (by omega)
    have hxm : x = (m : Int) := by rw [hxe, hk, ← hm]; simp
    clear hxe
    subst hxm
    have e1 : (pre ++ [(m : Int)]).length = k + 1 := by simp [hk]
    rw [e1]
    rw [hk] at hinv ⊢
    obtain ⟨f, hf⟩ : ∃ f, (sweep l hand k)[m]? = some f := ⟨_, List.getElem?_eq_getElem (by rw [sweep_len]; exact hm1)⟩
    have hf' : (sweep l hand k)[((m : Int)).toNat]? = some f := by rw [Int.toNat_natCast]; exact hf
    have hstop : stopB l hand k = (evB f && !f.ref) := stopB_of (by rw [hm]; exact hf)
    have hsw : sweep l hand (k + 1) = if evB f = true then (sweep l hand k).set m { f with ref := false } else sweep l hand k := by
      rw [sweep, hm, bump, hf]
    refine wc_block ?_
    refine wc_seq ?_
    refine wc_block ?_
    refine wc_seq ?_
    refine wc_region ?_
    refine reg_quiet rfl (load_box tab_ok rfl rfl rfl rfl) ?_
    refine reg_quiet rfl (step_C tab_ok (fun K hk => hk)) ?_
    refine reg_quiet rfl (index_own tab_ok rfl rfl rfl rfl rfl (by omega) (by omega)) ?_
    refine reg_quiet rfl (load_row tab_ok rfl rfl ⟨rfl, _, by assumption, _, rfl, rfl⟩ rfl) ?_
    refine reg_quiet rfl (call_r (evictable_is _) rfl rfl (arg_e arg_nil) (.inl rfl) (fun _ => rfl)) ?_
    refine reg_quiet rfl (step_C tab_ok (fun K hk => hk)) ?_
    refine reg_quiet rfl (step_C tab_ok (fun K hk => hk)) ?_
    refine reg_nil ?_
    refine seq_n ?_
    refine wc_cond rfl (fun hv => ?_) (fun hv => ?_)
    · have hv' : evB f = false := by simpa using hv
      rw [hv'] at hsw hstop
      refine wc_exit ?_
      refine blk_y rfl ?_
      refine seq_x ?_
      refine blk_x ?_
      refine rnd_n (clkH l hand (k + 1)) [] [] ?_ ?_ ?_
      · exact .of rfl rfl rfl rfl rfl trivial ⟨⟨rfl, rfl, _, rfl, .refl _⟩, ⟨rfl, rfl, _, rfl, .refl _⟩, ⟨rfl, rfl, _, rfl, .of_eq (by rw [hsw]; rfl)⟩, trivial⟩
      · intro j hj
        rcases Nat.lt_or_ge j k with h | h
        · exact hinv j h
        · rw [show j = k by omega, hstop]; rfl
      · exact .of rfl rfl rfl rfl rfl ⟨⟨_, rfl, .refl _⟩, rfl, ⟨_, rfl, .refl _⟩, rfl, ⟨_, rfl, .refl _⟩, rfl, ⟨_, rfl, .refl _⟩, rfl, trivial⟩ ⟨⟨rfl, rfl, _, rfl, .refl _⟩, ⟨rfl, rfl, _, rfl, .refl _⟩, ⟨rfl, rfl, _, rfl, .refl _⟩, ⟨rfl, rfl, _, rfl, .refl _⟩, ⟨rfl, rfl, _, rfl, .refl _⟩, trivial⟩
    · have hv' : evB f = true := by simpa using hv
      rw [hv'] at hsw hstop
      refine wc_seq ?_
      refine wc_region ?_
      refine reg_quiet rfl (load_box tab_ok rfl rfl rfl rfl) ?_
      refine reg_quiet rfl (step_C tab_ok (fun K hk => hk)) ?_
      refine reg_quiet rfl (index_own tab_ok rfl rfl rfl rfl rfl (by omega) (by omega)) ?_
      refine reg_quiet rfl (step_C tab_ok (fun K hk => hk)) ?_
      refine reg_quiet rfl (load_row (v := .d (bo f.ref)) tab_ok rfl rfl ⟨rfl, f, hf', bo f.ref, rfl, rfl⟩ rfl) ?_
      refine reg_quiet rfl (step_C tab_ok (fun K hk => hk)) ?_
      refine reg_quiet rfl (step_C tab_ok (fun K hk => hk)) ?_
      refine reg_nil ?_
      refine seq_n ?_
      refine wc_cond rfl (fun hr => ?_) (fun hr => ?_)
      · have hr' : f.ref = false := by simpa using hr
        rw [hr'] at hstop
        have hclk := clock_hit hev hinv hstop
        refine wc_seq ?_
        refine wc_region ?_
        refine reg_quiet rfl (step_C tab_ok (fun K hk => hk)) ?_
        refine reg_store (store_row tab_ok rfl rfl rfl ⟨_, ⟨rfl, rfl, rfl⟩, rfl⟩ rfl) ?_
        refine reg_nil ?_
        refine seq_n ?_
        refine wc_exit ?_
        refine blk_y rfl ?_
        refine seq_x ?_
        refine blk_y rfl ?_
        refine rnd_x [(0, .box 3 (.int .i64 m)), (1, .box 22 (.own 2 0 l.length 40 none)), (2, .ds 39 40 true encFrame (sweep l hand k))] [] ?_ ?_
        · exact .of rfl rfl rfl rfl rfl trivial ⟨⟨rfl, rfl, _, rfl, .refl _⟩, ⟨rfl, rfl, _, rfl, .refl _⟩, ⟨rfl, rfl, _, rfl, .refl _⟩, trivial⟩
        · have ht : ((m : Int) + 1).tmod (l.length : Int) = (((m + 1) % l.length : Nat) : Int) := by
            rw [Int.tmod_eq_emod_of_nonneg (by omega)]; simp
          refine blk_x ?_
          refine seq_n ?_
          refine wc_seq ?_
          refine wc_draw (by kernel_rfl) ?_
          refine dreg_step rfl (load_box tab_ok rfl rfl rfl rfl) rfl rfl ?_
          refine dreg_step rfl (load_box tab_ok rfl rfl rfl rfl) rfl rfl ?_
          refine dreg_step rfl (load_box tab_ok rfl rfl rfl rfl) rfl rfl ?_
          refine dreg_step rfl (add_int tab_ok rfl rfl (wrap_i64 (by omega) (by omega))) rfl rfl ?_
          refine dreg_step rfl (step_C tab_ok (fun K hk => hk)) rfl rfl ?_
          refine dreg_step rfl (len_arr tab_ok rfl rfl) rfl rfl ?_
          refine dreg_step rfl (rem_int tab_ok rfl rfl (by omega)) rfl rfl ?_
          refine dreg_step rfl (store_row tab_ok rfl rfl rfl ⟨_, ⟨rfl, rfl, rfl⟩, rfl⟩ rfl) rfl rfl ?_
          refine dreg_step rfl (store_row tab_ok rfl rfl rfl ⟨_, ⟨rfl, rfl, rfl⟩, rfl⟩ rfl) rfl rfl ?_
          refine dreg_step rfl (step_C tab_ok (fun K hk => hk)) rfl rfl ?_
          refine dreg_step rfl (step_C tab_ok (fun K hk => hk)) rfl rfl ?_
          refine dreg_nil (by kernel_rfl) ?_
          refine seq_n ?_
          refine wc_ret ?_
          refine sco_r ?_
          refine ⟨trivial, _, rfl, _, rfl, [(64, some 66)], .of rfl rfl rfl rfl rfl ⟨⟨_, rfl, AVLe.of_eq ?_⟩, rfl, trivial⟩ ⟨⟨rfl, rfl, _, rfl, .of_eq (by rw [hclk]; rfl)⟩, trivial⟩⟩
          rw [hclk, hm, ← ht]
          rfl
      · have hr' : f.ref = true := by simpa using hr
        rw [hr'] at hstop
        refine wc_skip ?_
        refine blk_n ?_
        refine seq_n ?_
        refine wc_region ?_
        refine reg_quiet rfl (load_box tab_ok rfl rfl rfl rfl) ?_
        refine reg_quiet rfl (step_C tab_ok (fun K hk => hk)) ?_
        refine reg_quiet rfl (index_own tab_ok rfl rfl rfl rfl rfl (by omega) (by omega)) ?_
        refine reg_quiet rfl (step_C tab_ok (fun K hk => hk)) ?_
        refine reg_store (store_row tab_ok rfl rfl rfl ⟨rfl, f, { f with ref := false }, by assumption, ⟨_, ⟨rfl, rfl, rfl⟩, rfl⟩, rfl⟩ rfl) ?_
        refine reg_nil ?_
        refine blk_n ?_
        refine rnd_n (clkH l hand (k + 1)) [] [] ?_ ?_ ?_
        · exact .of rfl rfl rfl rfl rfl trivial ⟨⟨rfl, rfl, _, rfl, .refl _⟩, ⟨rfl, rfl, _, rfl, .refl _⟩, ⟨rfl, rfl, _, rfl, .of_eq (by rw [hsw]; rfl)⟩, trivial⟩
        · intro j hj
          rcases Nat.lt_or_ge j k with h | h
          · exact hinv j h
          · rw [show j = k by omega, hstop]; rfl
        · exact .of rfl rfl rfl rfl rfl ⟨⟨_, rfl, .refl _⟩, rfl, ⟨_, rfl, .refl _⟩, rfl, ⟨_, rfl, .refl _⟩, rfl, ⟨_, rfl, .refl _⟩, rfl, trivial⟩ ⟨⟨rfl, rfl, _, rfl, .refl _⟩, ⟨rfl, rfl, _, rfl, .refl _⟩, ⟨rfl, rfl, _, rfl, .refl _⟩, ⟨rfl, rfl, _, rfl, .refl _⟩, ⟨rfl, rfl, _, rfl, .refl _⟩, trivial⟩
end Go.Proofs.Ytmdfeekpehcieaa

/- What Victim answers where there is one. -/
namespace Go.Proofs.Ytmdfeekpehcieaa
open Go.Eng
def vAt (l : List Frame) (hand : Nat) : Int := if (l.any fun f => !f.used) = true then fidx (fun f => !f.used) l else ((hand + clock l hand) % l.length : Nat)
def vNext (l : List Frame) (hand : Nat) : List Frame := if (l.any fun f => !f.used) = true then l else sweep l hand (clock l hand)
def vAfter (l : List Frame) (hand : Nat) : Int := if (l.any fun f => !f.used) = true then hand else (((hand + clock l hand) % l.length + 1) % l.length : Nat)
theorem vNext_len (l : List Frame) (hand : Nat) : (vNext l hand).length = l.length := by
  unfold vNext; split
  · rfl
  · exact sweep_len _ _ _
theorem fidx_nonneg {α : Type} {p : α → Bool} {l : List α} (h : l.any p = true) : ¬ fidx p l < 0 := by
  rw [← fidx_any] at h
  have := of_decide_eq_true h
  omega
theorem victim_ok (l : List Frame) (hand : Nat) (hlen : l.length ≤ 1000000) (hh : hand < l.length) (hx : (l.any fun f => !f.used || evB f) = true) :
    FnIs Try.prog 16 [.d (.arr 40 encFrame l), .d (i6 hand)] [] (tup4 (.int .i64 (vAt l hand)) (.own 64 0 (vNext l hand).length 40 none) (.int .i64 (vAfter l hand)) (.int .i64 0)) [(64, .ds 39 40 true encFrame (vNext l hand))] := by
  have hc : (decide ((hand : Int) < 0) || decide ((hand : Int) ≥ l.length)) = false := by
    rw [Bool.or_eq_false_iff]; exact ⟨decide_eq_false (by omega), decide_eq_false (by omega)⟩
  have hx' : (!l.any fun f => !f.used || evB f) = false := by rw [hx]; rfl
  rw [vNext_len]
  cases hu : l.any fun f => !f.used with
  | true =>
    have h := victim_unused l hand hlen hc hx' hu
    rw [if_neg (fidx_nonneg hu)] at h
    simp only [vAt, vNext, vAfter, hu, if_true]
    exact h
  | false =>
    have h := victim_clock l hand hlen hc hx' hu
    simp only [vAt, vNext, vAfter, hu, Bool.false_eq_true, if_false]
    exact h
theorem frame_plain (f : Frame) : (encFrame f).plain := ⟨trivial, trivial, fun _ => trivial, trivial, trivial, trivial, trivial, ⟨trivial, trivial, trivial⟩, trivial⟩
theorem victim_plain (a b c : Int) (n : Nat) (l : List Frame) (ex : Bool) : PlainRes (tup4 (.int .i64 a) (.own 64 0 n 40 none) (.int .i64 b) (.int .i64 c)) [(64, .ds 39 40 ex encFrame l)] :=
  .of ⟨trivial, trivial, trivial, trivial, trivial⟩ (plain_rows_cons (fun f => frame_plain f) plain_rows_nil)
theorem victim_plain0 (a b c : Int) : PlainRes (tup4 (.int .i64 a) (.d (.sc (.slice none 0 0))) (.int .i64 b) (.int .i64 c)) [] :=
  .of ⟨trivial, trivial, trivial, trivial, trivial⟩ plain_rows_nil
theorem tup2_plain (a b : Value) : PlainRes (tup2 (.sc a) (.sc b)) [] := .of ⟨trivial, trivial, trivial⟩ plain_rows_nil
end Go.Proofs.Ytmdfeekpehcieaa

/- The examples of the chapter. -/
namespace Go.Proofs.Ytmdfeekpehcieaa
open Go.Eng
set_option maxHeartbeats 4000000
attribute [local irreducible] WC RegS RegD SeqQ BlkQ ScoQ RegK CutK Sat SatN FnIs LoopQ StepIs OpIs
abbrev s0 : ByteArray := { data := #[99, 45, 114] }
abbrev s1 : ByteArray := { data := #[114, 100, 99] }
abbrev s2 : ByteArray := { data := #[114, 100, 114] }
abbrev s3 : ByteArray := { data := #[99, 99, 99] }
abbrev s4 : ByteArray := { data := #[108, 99, 98] }
abbrev s5 : ByteArray := { data := #[99, 100, 99] }
abbrev s6 : ByteArray := { data := #[108, 100, 98] }
abbrev s7 : ByteArray := { data := #[99] }
abbrev s8 : ByteArray := { data := #[99, 98, 100] }
abbrev s9 : ByteArray := { data := #[99, 98, 108] }
abbrev s10 : ByteArray := { data := #[108, 100, 114] }
abbrev ltr (s : ByteArray) : List Frame := letters s s.size
abbrev livesRow : Row := .lits 9 1 6 true (.acons (.d (.sc (.string s0))) (.acons (.d (.sc (.string s1))) (.acons (.d (.sc (.string s2))) (.acons (.d (.sc (.string s2))) (.acons (.d (.sc (.string s3))) (.acons (.d (.sc (.string s4))) .anil))))))
theorem lives_is : FnIs Try.prog 15 [] [] (.bool true) [] := by
  refine fnIs_of tab_ok Try.func15 rfl rfl rfl ?_
  refine wc_seq ?_
  refine wc_region ?_
  refine reg_quiet rfl (step_C tab_ok (fun K hk => hk)) ?_
  refine reg_nil ?_
  refine seq_n ?_
  refine wc_seq ?_
  refine wc_seq ?_
  refine wc_region ?_
  refine reg_new (build_slice tab_ok rfl rfl rfl rfl rfl rfl rfl rfl) rfl ?_
  refine reg_quiet rfl (len_own tab_ok rfl rfl) ?_
  refine reg_quiet rfl (step_C tab_ok (fun K hk => hk)) ?_
  refine reg_nil ?_
  refine seq_n ?_
  refine wc_block ?_
  refine wc_inv (fun i : Nat => ⟨[(25, .int .i64 i), (24, .int .i64 6), (23, .own 64 0 6 1 none)], [(64, some livesRow)], 72, Try.f15.ntmps, 64⟩) (fun i => i ≤ 6) (fun i => 6 - i) 0 [(64, some 72)] (by omega)
    (.of rfl rfl rfl rfl rfl ⟨⟨_, rfl, .refl _⟩, rfl, ⟨_, rfl, .refl _⟩, rfl, ⟨_, rfl, .refl _⟩, rfl, trivial⟩ ⟨⟨rfl, rfl, _, rfl, .refl _⟩, trivial⟩) ?_
  intro i hi
  have hc : i = 0 ∨ i = 1 ∨ i = 2 ∨ i = 3 ∨ i = 4 ∨ i = 5 ∨ i = 6 := by omega
  rcases hc with rfl | rfl | rfl | rfl | rfl | rfl | rfl
  · have hL := list_is s0 (by decide)
    have hT := list_is s0 (by decide)
    have hV := victim_ok (ltr s0) 0 (by decide +kernel) (by decide +kernel) (by decide +kernel)
    rw [show vAt (ltr s0) 0 = 1 by decide +kernel, show vAfter (ltr s0) 0 = 0 by decide +kernel] at hV
    have hS := refsame_is (vNext (ltr s0) 0) (ltr s0) (by decide +kernel) (by decide +kernel)
    rw [show decide (vNext (ltr s0) 0 = ltr s0) = true by decide +kernel, if_pos rfl] at hS
    refine wc_of ?_
    refine wc_seq ?_
    refine wc_region ?_
    refine reg_quiet rfl (step_C tab_ok (fun K hk => hk)) ?_
    refine reg_nil ?_
    refine seq_n ?_
    refine wc_seq ?_
    refine wc_true rfl rfl ?_
    refine wc_skip ?_
    refine seq_n ?_
    refine wc_seq ?_
    refine wc_block ?_
    refine wc_seq ?_
    refine wc_region ?_
    refine reg_quiet rfl (step_C tab_ok (fun K hk => hk)) ?_
    refine reg_quiet rfl (index_own tab_ok rfl rfl rfl rfl rfl (by decide) (by decide)) ?_
    refine reg_quiet rfl (load_row tab_ok rfl rfl ⟨rfl, by decide, rfl⟩ rfl) ?_
    refine reg_quiet rfl (step_C tab_ok (fun K hk => hk)) ?_
    refine reg_quiet rfl (step_C tab_ok (fun K hk => hk)) ?_
    refine reg_nil ?_
    refine seq_n ?_
    refine wc_seq ?_
    refine wc_draw (by kernel_rfl) ?_
    refine dreg_step rfl (step_C tab_ok (fun K hk => hk)) rfl rfl ?_
    refine dreg_step rfl (call_new hL rfl rfl (arg_e arg_nil) (.inl rfl) rfl rfl) rfl rfl ?_
    refine dreg_step rfl (build_arr_of tab_ok rfl rfl rfl rfl rfl rfl rfl) rfl rfl ?_
    refine dreg_step rfl (step_C tab_ok (fun K hk => hk)) rfl rfl ?_
    refine dreg_step rfl (index_vec tab_ok rfl rfl rfl rfl rfl (by decide) (by decide) rfl rfl) rfl rfl ?_
    refine dreg_step rfl (call_new hV rfl rfl (arg_own rfl (arg_e arg_nil)) (.inr (victim_plain _ _ _ _ _ _)) rfl rfl) rfl rfl ?_
    refine dreg_step rfl (step_C tab_ok (fun K hk => hk)) rfl rfl ?_
    refine dreg_step rfl (step_C tab_ok (fun K hk => hk)) rfl rfl ?_
    refine dreg_step rfl (step_C tab_ok (fun K hk => hk)) rfl rfl ?_
    refine dreg_step rfl (step_C tab_ok (fun K hk => hk)) rfl rfl ?_
    refine dreg_step rfl (step_C tab_ok (fun K hk => hk)) rfl rfl ?_
    refine dreg_step rfl (step_C tab_ok (fun K hk => hk)) rfl rfl ?_
    refine dreg_step rfl (step_C tab_ok (fun K hk => hk)) rfl rfl ?_
    refine dreg_step rfl (step_C tab_ok (fun K hk => hk)) rfl rfl ?_
    refine dreg_step rfl (step_C tab_ok (fun K hk => hk)) rfl rfl ?_
    refine dreg_nil (by kernel_rfl) ?_
    refine seq_n ?_
    refine wc_seq ?_
    refine wc_region ?_
    refine reg_quiet rfl (step_C tab_ok (fun K hk => hk)) ?_
    refine reg_quiet rfl (step_C tab_ok (fun K hk => hk)) ?_
    refine reg_quiet rfl (step_C tab_ok (fun K hk => hk)) ?_
    refine reg_on rfl rfl rfl ?_
    refine reg_quiet rfl (step_C tab_ok (fun K hk => hk)) ?_
    refine reg_on rfl rfl rfl ?_
    refine reg_quiet rfl (build_arr_of tab_ok rfl rfl rfl rfl rfl rfl rfl) ?_
    refine reg_on rfl rfl rfl ?_
    refine reg_quiet rfl (step_C tab_ok (fun K hk => hk)) ?_
    refine reg_on rfl rfl rfl ?_
    refine reg_quiet rfl (index_vec tab_ok rfl rfl rfl rfl rfl (by decide) (by decide) rfl rfl) ?_
    refine reg_on rfl rfl rfl ?_
    refine reg_quiet rfl (step_C tab_ok (fun K hk => hk)) ?_
    refine reg_quiet rfl (pick_F tab_ok rfl rfl rfl) ?_
    refine reg_quiet rfl (step_C tab_ok (fun K hk => hk)) ?_
    refine reg_on rfl rfl rfl ?_
    refine reg_quiet rfl (step_C tab_ok (fun K hk => hk)) ?_
    refine reg_on rfl rfl rfl ?_
    refine reg_quiet rfl (build_arr_of tab_ok rfl rfl rfl rfl rfl rfl rfl) ?_
    refine reg_on rfl rfl rfl ?_
    refine reg_quiet rfl (step_C tab_ok (fun K hk => hk)) ?_
    refine reg_on rfl rfl rfl ?_
    refine reg_quiet rfl (index_vec tab_ok rfl rfl rfl rfl rfl (by decide) (by decide) rfl rfl) ?_
    refine reg_on rfl rfl rfl ?_
    refine reg_quiet rfl (step_C tab_ok (fun K hk => hk)) ?_
    refine reg_quiet rfl (pick_F tab_ok rfl rfl rfl) ?_
    refine reg_quiet rfl (step_C tab_ok (fun K hk => hk)) ?_
    refine reg_on rfl rfl rfl ?_
    refine reg_quiet rfl (step_C tab_ok (fun K hk => hk)) ?_
    refine reg_on rfl rfl rfl ?_
    refine reg_quiet rfl (build_arr_of tab_ok rfl rfl rfl rfl rfl rfl rfl) ?_
    refine reg_on rfl rfl rfl ?_
    refine reg_quiet rfl (step_C tab_ok (fun K hk => hk)) ?_
    refine reg_on rfl rfl rfl ?_
    refine reg_quiet rfl (index_vec tab_ok rfl rfl rfl rfl rfl (by decide) (by decide) rfl rfl) ?_
    refine reg_on rfl rfl rfl ?_
    refine reg_new (call_new hL rfl rfl (arg_e arg_nil) (.inl rfl) rfl rfl) rfl ?_
    refine reg_on rfl rfl rfl ?_
    refine reg_quiet rfl (call_r hS rfl rfl (arg_own rfl (arg_own rfl arg_nil)) (.inr (PlainRes.sc _)) (fun _ => rfl)) ?_
    refine reg_on rfl rfl rfl ?_
    refine reg_quiet rfl (step_C tab_ok (fun K hk => hk)) ?_
    refine reg_quiet rfl (pick_F tab_ok rfl rfl rfl) ?_
    refine reg_nil ?_
    refine seq_n ?_
    refine wc_false rfl rfl ?_
    refine wc_skip ?_
    refine blk_n ?_
    refine seq_n ?_
    refine wc_region ?_
    refine reg_quiet rfl (add_int tab_ok rfl rfl (wrap_i64 (by omega) (by omega))) ?_
    refine reg_quiet rfl (step_C tab_ok (fun K hk => hk)) ?_
    refine reg_nil ?_
    refine loop_n 1 [] (by decide) (by decide) ?_
    exact .of rfl rfl rfl rfl rfl ⟨⟨_, rfl, .refl _⟩, rfl, ⟨_, rfl, .refl _⟩, rfl, ⟨_, rfl, .refl _⟩, rfl, trivial⟩ ⟨⟨rfl, rfl, _, rfl, .refl _⟩, trivial⟩
  · have hL := list_is s1 (by decide)
    have hT := list_is s5 (by decide)
    have hV := victim_ok (ltr s1) 0 (by decide +kernel) (by decide +kernel) (by decide +kernel)
    rw [show vAt (ltr s1) 0 = 2 by decide +kernel, show vAfter (ltr s1) 0 = 0 by decide +kernel] at hV
    have hS := refsame_is (vNext (ltr s1) 0) (ltr s5) (by decide +kernel) (by decide +kernel)
    rw [show decide (vNext (ltr s1) 0 = ltr s5) = true by decide +kernel, if_pos rfl] at hS
    refine wc_of ?_
    refine wc_seq ?_
    refine wc_region ?_
    refine reg_quiet rfl (step_C tab_ok (fun K hk => hk)) ?_
    refine reg_nil ?_
    refine seq_n ?_
    refine wc_seq ?_
    refine wc_true rfl rfl ?_
    refine wc_skip ?_
    refine seq_n ?_
    refine wc_seq ?_
    refine wc_block ?_
    refine wc_seq ?_
    refine wc_region ?_
    refine reg_quiet rfl (step_C tab_ok (fun K hk => hk)) ?_
    refine reg_quiet rfl (index_own tab_ok rfl rfl rfl rfl rfl (by decide) (by decide)) ?_
    refine reg_quiet rfl (load_row tab_ok rfl rfl ⟨rfl, by decide, rfl⟩ rfl) ?_
    refine reg_quiet rfl (step_C tab_ok (fun K hk => hk)) ?_
    refine reg_quiet rfl (step_C tab_ok (fun K hk => hk)) ?_
    refine reg_nil ?_
    refine seq_n ?_
    refine wc_seq ?_
    refine wc_draw (by kernel_rfl) ?_
    refine dreg_step rfl (step_C tab_ok (fun K hk => hk)) rfl rfl ?_
    refine dreg_step rfl (call_new hL rfl rfl (arg_e arg_nil) (.inl rfl) rfl rfl) rfl rfl ?_
    refine dreg_step rfl (build_arr_of tab_ok rfl rfl rfl rfl rfl rfl rfl) rfl rfl ?_
    refine dreg_step rfl (step_C tab_ok (fun K hk => hk)) rfl rfl ?_
    refine dreg_step rfl (index_vec tab_ok rfl rfl rfl rfl rfl (by decide) (by decide) rfl rfl) rfl rfl ?_
    refine dreg_step rfl (call_new hV rfl rfl (arg_own rfl (arg_e arg_nil)) (.inr (victim_plain _ _ _ _ _ _)) rfl rfl) rfl rfl ?_
    refine dreg_step rfl (step_C tab_ok (fun K hk => hk)) rfl rfl ?_
    refine dreg_step rfl (step_C tab_ok (fun K hk => hk)) rfl rfl ?_
    refine dreg_step rfl (step_C tab_ok (fun K hk => hk)) rfl rfl ?_
    refine dreg_step rfl (step_C tab_ok (fun K hk => hk)) rfl rfl ?_
    refine dreg_step rfl (step_C tab_ok (fun K hk => hk)) rfl rfl ?_
    refine dreg_step rfl (step_C tab_ok (fun K hk => hk)) rfl rfl ?_
    refine dreg_step rfl (step_C tab_ok (fun K hk => hk)) rfl rfl ?_
    refine dreg_step rfl (step_C tab_ok (fun K hk => hk)) rfl rfl ?_
    refine dreg_step rfl (step_C tab_ok (fun K hk => hk)) rfl rfl ?_
    refine dreg_nil (by kernel_rfl) ?_
    refine seq_n ?_
    refine wc_seq ?_
    refine wc_region ?_
    refine reg_quiet rfl (step_C tab_ok (fun K hk => hk)) ?_
    refine reg_quiet rfl (step_C tab_ok (fun K hk => hk)) ?_
    refine reg_quiet rfl (step_C tab_ok (fun K hk => hk)) ?_
    refine reg_on rfl rfl rfl ?_
    refine reg_quiet rfl (step_C tab_ok (fun K hk => hk)) ?_
    refine reg_on rfl rfl rfl ?_
    refine reg_quiet rfl (build_arr_of tab_ok rfl rfl rfl rfl rfl rfl rfl) ?_
    refine reg_on rfl rfl rfl ?_
    refine reg_quiet rfl (step_C tab_ok (fun K hk => hk)) ?_
    refine reg_on rfl rfl rfl ?_
    refine reg_quiet rfl (index_vec tab_ok rfl rfl rfl rfl rfl (by decide) (by decide) rfl rfl) ?_
    refine reg_on rfl rfl rfl ?_
    refine reg_quiet rfl (step_C tab_ok (fun K hk => hk)) ?_
    refine reg_quiet rfl (pick_F tab_ok rfl rfl rfl) ?_
    refine reg_quiet rfl (step_C tab_ok (fun K hk => hk)) ?_
    refine reg_on rfl rfl rfl ?_
    refine reg_quiet rfl (step_C tab_ok (fun K hk => hk)) ?_
    refine reg_on rfl rfl rfl ?_
    refine reg_quiet rfl (build_arr_of tab_ok rfl rfl rfl rfl rfl rfl rfl) ?_
    refine reg_on rfl rfl rfl ?_
    refine reg_quiet rfl (step_C tab_ok (fun K hk => hk)) ?_
    refine reg_on rfl rfl rfl ?_
    refine reg_quiet rfl (index_vec tab_ok rfl rfl rfl rfl rfl (by decide) (by decide) rfl rfl) ?_
    refine reg_on rfl rfl rfl ?_
    refine reg_quiet rfl (step_C tab_ok (fun K hk => hk)) ?_
    refine reg_quiet rfl (pick_F tab_ok rfl rfl rfl) ?_
    refine reg_quiet rfl (step_C tab_ok (fun K hk => hk)) ?_
    refine reg_on rfl rfl rfl ?_
    refine reg_quiet rfl (step_C tab_ok (fun K hk => hk)) ?_
    refine reg_on rfl rfl rfl ?_
    refine reg_quiet rfl (build_arr_of tab_ok rfl rfl rfl rfl rfl rfl rfl) ?_
    refine reg_on rfl rfl rfl ?_
    refine reg_quiet rfl (step_C tab_ok (fun K hk => hk)) ?_
    refine reg_on rfl rfl rfl ?_
    refine reg_quiet rfl (index_vec tab_ok rfl rfl rfl rfl rfl (by decide) (by decide) rfl rfl) ?_
    refine reg_on rfl rfl rfl ?_
    refine reg_new (call_new hT rfl rfl (arg_e arg_nil) (.inl rfl) rfl rfl) rfl ?_
    refine reg_on rfl rfl rfl ?_
    refine reg_quiet rfl (call_r hS rfl rfl (arg_own rfl (arg_own rfl arg_nil)) (.inr (PlainRes.sc _)) (fun _ => rfl)) ?_
    refine reg_on rfl rfl rfl ?_
    refine reg_quiet rfl (step_C tab_ok (fun K hk => hk)) ?_
    refine reg_quiet rfl (pick_F tab_ok rfl rfl rfl) ?_
    refine reg_nil ?_
    refine seq_n ?_
    refine wc_false rfl rfl ?_
    refine wc_skip ?_
    refine blk_n ?_
    refine seq_n ?_
    refine wc_region ?_
    refine reg_quiet rfl (add_int tab_ok rfl rfl (wrap_i64 (by omega) (by omega))) ?_
    refine reg_quiet rfl (step_C tab_ok (fun K hk => hk)) ?_
    refine reg_nil ?_
    refine loop_n 2 [] (by decide) (by decide) ?_
    exact .of rfl rfl rfl rfl rfl ⟨⟨_, rfl, .refl _⟩, rfl, ⟨_, rfl, .refl _⟩, rfl, ⟨_, rfl, .refl _⟩, rfl, trivial⟩ ⟨⟨rfl, rfl, _, rfl, .refl _⟩, trivial⟩
  · have hL := list_is s2 (by decide)
    have hT := list_is s5 (by decide)
    have hV := victim_ok (ltr s2) 0 (by decide +kernel) (by decide +kernel) (by decide +kernel)
    rw [show vAt (ltr s2) 0 = 0 by decide +kernel, show vAfter (ltr s2) 0 = 1 by decide +kernel] at hV
    have hS := refsame_is (vNext (ltr s2) 0) (ltr s5) (by decide +kernel) (by decide +kernel)
    rw [show decide (vNext (ltr s2) 0 = ltr s5) = true by decide +kernel, if_pos rfl] at hS
    refine wc_of ?_
    refine wc_seq ?_
    refine wc_region ?_
    refine reg_quiet rfl (step_C tab_ok (fun K hk => hk)) ?_
    refine reg_nil ?_
    refine seq_n ?_
    refine wc_seq ?_
    refine wc_true rfl rfl ?_
    refine wc_skip ?_
    refine seq_n ?_
    refine wc_seq ?_
    refine wc_block ?_
    refine wc_seq ?_
    refine wc_region ?_
    refine reg_quiet rfl (step_C tab_ok (fun K hk => hk)) ?_
    refine reg_quiet rfl (index_own tab_ok rfl rfl rfl rfl rfl (by decide) (by decide)) ?_
    refine reg_quiet rfl (load_row tab_ok rfl rfl ⟨rfl, by decide, rfl⟩ rfl) ?_
    refine reg_quiet rfl (step_C tab_ok (fun K hk => hk)) ?_
    refine reg_quiet rfl (step_C tab_ok (fun K hk => hk)) ?_
    refine reg_nil ?_
    refine seq_n ?_
    refine wc_seq ?_
    refine wc_draw (by kernel_rfl) ?_
    refine dreg_step rfl (step_C tab_ok (fun K hk => hk)) rfl rfl ?_
    refine dreg_step rfl (call_new hL rfl rfl (arg_e arg_nil) (.inl rfl) rfl rfl) rfl rfl ?_
    refine dreg_step rfl (build_arr_of tab_ok rfl rfl rfl rfl rfl rfl rfl) rfl rfl ?_
    refine dreg_step rfl (step_C tab_ok (fun K hk => hk)) rfl rfl ?_
    refine dreg_step rfl (index_vec tab_ok rfl rfl rfl rfl rfl (by decide) (by decide) rfl rfl) rfl rfl ?_
    refine dreg_step rfl (call_new hV rfl rfl (arg_own rfl (arg_e arg_nil)) (.inr (victim_plain _ _ _ _ _ _)) rfl rfl) rfl rfl ?_
    refine dreg_step rfl (step_C tab_ok (fun K hk => hk)) rfl rfl ?_
    refine dreg_step rfl (step_C tab_ok (fun K hk => hk)) rfl rfl ?_
    refine dreg_step rfl (step_C tab_ok (fun K hk => hk)) rfl rfl ?_
    refine dreg_step rfl (step_C tab_ok (fun K hk => hk)) rfl rfl ?_
    refine dreg_step rfl (step_C tab_ok (fun K hk => hk)) rfl rfl ?_
    refine dreg_step rfl (step_C tab_ok (fun K hk => hk)) rfl rfl ?_
    refine dreg_step rfl (step_C tab_ok (fun K hk => hk)) rfl rfl ?_
    refine dreg_step rfl (step_C tab_ok (fun K hk => hk)) rfl rfl ?_
    refine dreg_step rfl (step_C tab_ok (fun K hk => hk)) rfl rfl ?_
    refine dreg_nil (by kernel_rfl) ?_
    refine seq_n ?_
    refine wc_seq ?_
    refine wc_region ?_
    refine reg_quiet rfl (step_C tab_ok (fun K hk => hk)) ?_
    refine reg_quiet rfl (step_C tab_ok (fun K hk => hk)) ?_
    refine reg_quiet rfl (step_C tab_ok (fun K hk => hk)) ?_
    refine reg_on rfl rfl rfl ?_
    refine reg_quiet rfl (step_C tab_ok (fun K hk => hk)) ?_
    refine reg_on rfl rfl rfl ?_
    refine reg_quiet rfl (build_arr_of tab_ok rfl rfl rfl rfl rfl rfl rfl) ?_
    refine reg_on rfl rfl rfl ?_
    refine reg_quiet rfl (step_C tab_ok (fun K hk => hk)) ?_
    refine reg_on rfl rfl rfl ?_
    refine reg_quiet rfl (index_vec tab_ok rfl rfl rfl rfl rfl (by decide) (by decide) rfl rfl) ?_
    refine reg_on rfl rfl rfl ?_
    refine reg_quiet rfl (step_C tab_ok (fun K hk => hk)) ?_
    refine reg_quiet rfl (pick_F tab_ok rfl rfl rfl) ?_
    refine reg_quiet rfl (step_C tab_ok (fun K hk => hk)) ?_
    refine reg_on rfl rfl rfl ?_
    refine reg_quiet rfl (step_C tab_ok (fun K hk => hk)) ?_
    refine reg_on rfl rfl rfl ?_
    refine reg_quiet rfl (build_arr_of tab_ok rfl rfl rfl rfl rfl rfl rfl) ?_
    refine reg_on rfl rfl rfl ?_
    refine reg_quiet rfl (step_C tab_ok (fun K hk => hk)) ?_
    refine reg_on rfl rfl rfl ?_
    refine reg_quiet rfl (index_vec tab_ok rfl rfl rfl rfl rfl (by decide) (by decide) rfl rfl) ?_
    refine reg_on rfl rfl rfl ?_
    refine reg_quiet rfl (step_C tab_ok (fun K hk => hk)) ?_
    refine reg_quiet rfl (pick_F tab_ok rfl rfl rfl) ?_
    refine reg_quiet rfl (step_C tab_ok (fun K hk => hk)) ?_
    refine reg_on rfl rfl rfl ?_
    refine reg_quiet rfl (step_C tab_ok (fun K hk => hk)) ?_
    refine reg_on rfl rfl rfl ?_
    refine reg_quiet rfl (build_arr_of tab_ok rfl rfl rfl rfl rfl rfl rfl) ?_
    refine reg_on rfl rfl rfl ?_
    refine reg_quiet rfl (step_C tab_ok (fun K hk => hk)) ?_
    refine reg_on rfl rfl rfl ?_
    refine reg_quiet rfl (index_vec tab_ok rfl rfl rfl rfl rfl (by decide) (by decide) rfl rfl) ?_
    refine reg_on rfl rfl rfl ?_
    refine reg_new (call_new hT rfl rfl (arg_e arg_nil) (.inl rfl) rfl rfl) rfl ?_
    refine reg_on rfl rfl rfl ?_
    refine reg_quiet rfl (call_r hS rfl rfl (arg_own rfl (arg_own rfl arg_nil)) (.inr (PlainRes.sc _)) (fun _ => rfl)) ?_
    refine reg_on rfl rfl rfl ?_
    refine reg_quiet rfl (step_C tab_ok (fun K hk => hk)) ?_
    refine reg_quiet rfl (pick_F tab_ok rfl rfl rfl) ?_
    refine reg_nil ?_
    refine seq_n ?_
    refine wc_false rfl rfl ?_
    refine wc_skip ?_
    refine blk_n ?_
    refine seq_n ?_
    refine wc_region ?_
    refine reg_quiet rfl (add_int tab_ok rfl rfl (wrap_i64 (by omega) (by omega))) ?_
    refine reg_quiet rfl (step_C tab_ok (fun K hk => hk)) ?_
    refine reg_nil ?_
    refine loop_n 3 [] (by decide) (by decide) ?_
    exact .of rfl rfl rfl rfl rfl ⟨⟨_, rfl, .refl _⟩, rfl, ⟨_, rfl, .refl _⟩, rfl, ⟨_, rfl, .refl _⟩, rfl, trivial⟩ ⟨⟨rfl, rfl, _, rfl, .refl _⟩, trivial⟩
  · have hL := list_is s2 (by decide)
    have hT := list_is s5 (by decide)
    have hV := victim_ok (ltr s2) 2 (by decide +kernel) (by decide +kernel) (by decide +kernel)
    rw [show vAt (ltr s2) 2 = 2 by decide +kernel, show vAfter (ltr s2) 2 = 0 by decide +kernel] at hV
    have hS := refsame_is (vNext (ltr s2) 2) (ltr s5) (by decide +kernel) (by decide +kernel)
    rw [show decide (vNext (ltr s2) 2 = ltr s5) = true by decide +kernel, if_pos rfl] at hS
    refine wc_of ?_
    refine wc_seq ?_
    refine wc_region ?_
    refine reg_quiet rfl (step_C tab_ok (fun K hk => hk)) ?_
    refine reg_nil ?_
    refine seq_n ?_
    refine wc_seq ?_
    refine wc_true rfl rfl ?_
    refine wc_skip ?_
    refine seq_n ?_
    refine wc_seq ?_
    refine wc_block ?_
    refine wc_seq ?_
    refine wc_region ?_
    refine reg_quiet rfl (step_C tab_ok (fun K hk => hk)) ?_
    refine reg_quiet rfl (index_own tab_ok rfl rfl rfl rfl rfl (by decide) (by decide)) ?_
    refine reg_quiet rfl (load_row tab_ok rfl rfl ⟨rfl, by decide, rfl⟩ rfl) ?_
    refine reg_quiet rfl (step_C tab_ok (fun K hk => hk)) ?_
    refine reg_quiet rfl (step_C tab_ok (fun K hk => hk)) ?_
    refine reg_nil ?_
    refine seq_n ?_
    refine wc_seq ?_
    refine wc_draw (by kernel_rfl) ?_
    refine dreg_step rfl (step_C tab_ok (fun K hk => hk)) rfl rfl ?_
    refine dreg_step rfl (call_new hL rfl rfl (arg_e arg_nil) (.inl rfl) rfl rfl) rfl rfl ?_
    refine dreg_step rfl (build_arr_of tab_ok rfl rfl rfl rfl rfl rfl rfl) rfl rfl ?_
    refine dreg_step rfl (step_C tab_ok (fun K hk => hk)) rfl rfl ?_
    refine dreg_step rfl (index_vec tab_ok rfl rfl rfl rfl rfl (by decide) (by decide) rfl rfl) rfl rfl ?_
    refine dreg_step rfl (call_new hV rfl rfl (arg_own rfl (arg_e arg_nil)) (.inr (victim_plain _ _ _ _ _ _)) rfl rfl) rfl rfl ?_
    refine dreg_step rfl (step_C tab_ok (fun K hk => hk)) rfl rfl ?_
    refine dreg_step rfl (step_C tab_ok (fun K hk => hk)) rfl rfl ?_
    refine dreg_step rfl (step_C tab_ok (fun K hk => hk)) rfl rfl ?_
    refine dreg_step rfl (step_C tab_ok (fun K hk => hk)) rfl rfl ?_
    refine dreg_step rfl (step_C tab_ok (fun K hk => hk)) rfl rfl ?_
    refine dreg_step rfl (step_C tab_ok (fun K hk => hk)) rfl rfl ?_
    refine dreg_step rfl (step_C tab_ok (fun K hk => hk)) rfl rfl ?_
    refine dreg_step rfl (step_C tab_ok (fun K hk => hk)) rfl rfl ?_
    refine dreg_step rfl (step_C tab_ok (fun K hk => hk)) rfl rfl ?_
    refine dreg_nil (by kernel_rfl) ?_
    refine seq_n ?_
    refine wc_seq ?_
    refine wc_region ?_
    refine reg_quiet rfl (step_C tab_ok (fun K hk => hk)) ?_
    refine reg_quiet rfl (step_C tab_ok (fun K hk => hk)) ?_
    refine reg_quiet rfl (step_C tab_ok (fun K hk => hk)) ?_
    refine reg_on rfl rfl rfl ?_
    refine reg_quiet rfl (step_C tab_ok (fun K hk => hk)) ?_
    refine reg_on rfl rfl rfl ?_
    refine reg_quiet rfl (build_arr_of tab_ok rfl rfl rfl rfl rfl rfl rfl) ?_
    refine reg_on rfl rfl rfl ?_
    refine reg_quiet rfl (step_C tab_ok (fun K hk => hk)) ?_
    refine reg_on rfl rfl rfl ?_
    refine reg_quiet rfl (index_vec tab_ok rfl rfl rfl rfl rfl (by decide) (by decide) rfl rfl) ?_
    refine reg_on rfl rfl rfl ?_
    refine reg_quiet rfl (step_C tab_ok (fun K hk => hk)) ?_
    refine reg_quiet rfl (pick_F tab_ok rfl rfl rfl) ?_
    refine reg_quiet rfl (step_C tab_ok (fun K hk => hk)) ?_
    refine reg_on rfl rfl rfl ?_
    refine reg_quiet rfl (step_C tab_ok (fun K hk => hk)) ?_
    refine reg_on rfl rfl rfl ?_
    refine reg_quiet rfl (build_arr_of tab_ok rfl rfl rfl rfl rfl rfl rfl) ?_
    refine reg_on rfl rfl rfl ?_
    refine reg_quiet rfl (step_C tab_ok (fun K hk => hk)) ?_
    refine reg_on rfl rfl rfl ?_
    refine reg_quiet rfl (index_vec tab_ok rfl rfl rfl rfl rfl (by decide) (by decide) rfl rfl) ?_
    refine reg_on rfl rfl rfl ?_
    refine reg_quiet rfl (step_C tab_ok (fun K hk => hk)) ?_
    refine reg_quiet rfl (pick_F tab_ok rfl rfl rfl) ?_
    refine reg_quiet rfl (step_C tab_ok (fun K hk => hk)) ?_
    refine reg_on rfl rfl rfl ?_
    refine reg_quiet rfl (step_C tab_ok (fun K hk => hk)) ?_
    refine reg_on rfl rfl rfl ?_
    refine reg_quiet rfl (build_arr_of tab_ok rfl rfl rfl rfl rfl rfl rfl) ?_
    refine reg_on rfl rfl rfl ?_
    refine reg_quiet rfl (step_C tab_ok (fun K hk => hk)) ?_
    refine reg_on rfl rfl rfl ?_
    refine reg_quiet rfl (index_vec tab_ok rfl rfl rfl rfl rfl (by decide) (by decide) rfl rfl) ?_
    refine reg_on rfl rfl rfl ?_
    refine reg_new (call_new hT rfl rfl (arg_e arg_nil) (.inl rfl) rfl rfl) rfl ?_
    refine reg_on rfl rfl rfl ?_
    refine reg_quiet rfl (call_r hS rfl rfl (arg_own rfl (arg_own rfl arg_nil)) (.inr (PlainRes.sc _)) (fun _ => rfl)) ?_
    refine reg_on rfl rfl rfl ?_
    refine reg_quiet rfl (step_C tab_ok (fun K hk => hk)) ?_
    refine reg_quiet rfl (pick_F tab_ok rfl rfl rfl) ?_
    refine reg_nil ?_
    refine seq_n ?_
    refine wc_false rfl rfl ?_
    refine wc_skip ?_
    refine blk_n ?_
    refine seq_n ?_
    refine wc_region ?_
    refine reg_quiet rfl (add_int tab_ok rfl rfl (wrap_i64 (by omega) (by omega))) ?_
    refine reg_quiet rfl (step_C tab_ok (fun K hk => hk)) ?_
    refine reg_nil ?_
    refine loop_n 4 [] (by decide) (by decide) ?_
    exact .of rfl rfl rfl rfl rfl ⟨⟨_, rfl, .refl _⟩, rfl, ⟨_, rfl, .refl _⟩, rfl, ⟨_, rfl, .refl _⟩, rfl, trivial⟩ ⟨⟨rfl, rfl, _, rfl, .refl _⟩, trivial⟩
  · have hL := list_is s3 (by decide)
    have hT := list_is s3 (by decide)
    have hV := victim_ok (ltr s3) 1 (by decide +kernel) (by decide +kernel) (by decide +kernel)
    rw [show vAt (ltr s3) 1 = 1 by decide +kernel, show vAfter (ltr s3) 1 = 2 by decide +kernel] at hV
    have hS := refsame_is (vNext (ltr s3) 1) (ltr s3) (by decide +kernel) (by decide +kernel)
    rw [show decide (vNext (ltr s3) 1 = ltr s3) = true by decide +kernel, if_pos rfl] at hS
    refine wc_of ?_
    refine wc_seq ?_
    refine wc_region ?_
    refine reg_quiet rfl (step_C tab_ok (fun K hk => hk)) ?_
    refine reg_nil ?_
    refine seq_n ?_
    refine wc_seq ?_
    refine wc_true rfl rfl ?_
    refine wc_skip ?_
    refine seq_n ?_
    refine wc_seq ?_
    refine wc_block ?_
    refine wc_seq ?_
    refine wc_region ?_
    refine reg_quiet rfl (step_C tab_ok (fun K hk => hk)) ?_
    refine reg_quiet rfl (index_own tab_ok rfl rfl rfl rfl rfl (by decide) (by decide)) ?_
    refine reg_quiet rfl (load_row tab_ok rfl rfl ⟨rfl, by decide, rfl⟩ rfl) ?_
    refine reg_quiet rfl (step_C tab_ok (fun K hk => hk)) ?_
    refine reg_quiet rfl (step_C tab_ok (fun K hk => hk)) ?_
    refine reg_nil ?_
    refine seq_n ?_
    refine wc_seq ?_
    refine wc_draw (by kernel_rfl) ?_
    refine dreg_step rfl (step_C tab_ok (fun K hk => hk)) rfl rfl ?_
    refine dreg_step rfl (call_new hL rfl rfl (arg_e arg_nil) (.inl rfl) rfl rfl) rfl rfl ?_
    refine dreg_step rfl (build_arr_of tab_ok rfl rfl rfl rfl rfl rfl rfl) rfl rfl ?_
    refine dreg_step rfl (step_C tab_ok (fun K hk => hk)) rfl rfl ?_
    refine dreg_step rfl (index_vec tab_ok rfl rfl rfl rfl rfl (by decide) (by decide) rfl rfl) rfl rfl ?_
    refine dreg_step rfl (call_new hV rfl rfl (arg_own rfl (arg_e arg_nil)) (.inr (victim_plain _ _ _ _ _ _)) rfl rfl) rfl rfl ?_
    refine dreg_step rfl (step_C tab_ok (fun K hk => hk)) rfl rfl ?_
    refine dreg_step rfl (step_C tab_ok (fun K hk => hk)) rfl rfl ?_
    refine dreg_step rfl (step_C tab_ok (fun K hk => hk)) rfl rfl ?_
    refine dreg_step rfl (step_C tab_ok (fun K hk => hk)) rfl rfl ?_
    refine dreg_step rfl (step_C tab_ok (fun K hk => hk)) rfl rfl ?_
    refine dreg_step rfl (step_C tab_ok (fun K hk => hk)) rfl rfl ?_
    refine dreg_step rfl (step_C tab_ok (fun K hk => hk)) rfl rfl ?_
    refine dreg_step rfl (step_C tab_ok (fun K hk => hk)) rfl rfl ?_
    refine dreg_step rfl (step_C tab_ok (fun K hk => hk)) rfl rfl ?_
    refine dreg_nil (by kernel_rfl) ?_
    refine seq_n ?_
    refine wc_seq ?_
    refine wc_region ?_
    refine reg_quiet rfl (step_C tab_ok (fun K hk => hk)) ?_
    refine reg_quiet rfl (step_C tab_ok (fun K hk => hk)) ?_
    refine reg_quiet rfl (step_C tab_ok (fun K hk => hk)) ?_
    refine reg_on rfl rfl rfl ?_
    refine reg_quiet rfl (step_C tab_ok (fun K hk => hk)) ?_
    refine reg_on rfl rfl rfl ?_
    refine reg_quiet rfl (build_arr_of tab_ok rfl rfl rfl rfl rfl rfl rfl) ?_
    refine reg_on rfl rfl rfl ?_
    refine reg_quiet rfl (step_C tab_ok (fun K hk => hk)) ?_
    refine reg_on rfl rfl rfl ?_
    refine reg_quiet rfl (index_vec tab_ok rfl rfl rfl rfl rfl (by decide) (by decide) rfl rfl) ?_
    refine reg_on rfl rfl rfl ?_
    refine reg_quiet rfl (step_C tab_ok (fun K hk => hk)) ?_
    refine reg_quiet rfl (pick_F tab_ok rfl rfl rfl) ?_
    refine reg_quiet rfl (step_C tab_ok (fun K hk => hk)) ?_
    refine reg_on rfl rfl rfl ?_
    refine reg_quiet rfl (step_C tab_ok (fun K hk => hk)) ?_
    refine reg_on rfl rfl rfl ?_
    refine reg_quiet rfl (build_arr_of tab_ok rfl rfl rfl rfl rfl rfl rfl) ?_
    refine reg_on rfl rfl rfl ?_
    refine reg_quiet rfl (step_C tab_ok (fun K hk => hk)) ?_
    refine reg_on rfl rfl rfl ?_
    refine reg_quiet rfl (index_vec tab_ok rfl rfl rfl rfl rfl (by decide) (by decide) rfl rfl) ?_
    refine reg_on rfl rfl rfl ?_
    refine reg_quiet rfl (step_C tab_ok (fun K hk => hk)) ?_
    refine reg_quiet rfl (pick_F tab_ok rfl rfl rfl) ?_
    refine reg_quiet rfl (step_C tab_ok (fun K hk => hk)) ?_
    refine reg_on rfl rfl rfl ?_
    refine reg_quiet rfl (step_C tab_ok (fun K hk => hk)) ?_
    refine reg_on rfl rfl rfl ?_
    refine reg_quiet rfl (build_arr_of tab_ok rfl rfl rfl rfl rfl rfl rfl) ?_
    refine reg_on rfl rfl rfl ?_
    refine reg_quiet rfl (step_C tab_ok (fun K hk => hk)) ?_
    refine reg_on rfl rfl rfl ?_
    refine reg_quiet rfl (index_vec tab_ok rfl rfl rfl rfl rfl (by decide) (by decide) rfl rfl) ?_
    refine reg_on rfl rfl rfl ?_
    refine reg_new (call_new hL rfl rfl (arg_e arg_nil) (.inl rfl) rfl rfl) rfl ?_
    refine reg_on rfl rfl rfl ?_
    refine reg_quiet rfl (call_r hS rfl rfl (arg_own rfl (arg_own rfl arg_nil)) (.inr (PlainRes.sc _)) (fun _ => rfl)) ?_
    refine reg_on rfl rfl rfl ?_
    refine reg_quiet rfl (step_C tab_ok (fun K hk => hk)) ?_
    refine reg_quiet rfl (pick_F tab_ok rfl rfl rfl) ?_
    refine reg_nil ?_
    refine seq_n ?_
    refine wc_false rfl rfl ?_
    refine wc_skip ?_
    refine blk_n ?_
    refine seq_n ?_
    refine wc_region ?_
    refine reg_quiet rfl (add_int tab_ok rfl rfl (wrap_i64 (by omega) (by omega))) ?_
    refine reg_quiet rfl (step_C tab_ok (fun K hk => hk)) ?_
    refine reg_nil ?_
    refine loop_n 5 [] (by decide) (by decide) ?_
    exact .of rfl rfl rfl rfl rfl ⟨⟨_, rfl, .refl _⟩, rfl, ⟨_, rfl, .refl _⟩, rfl, ⟨_, rfl, .refl _⟩, rfl, trivial⟩ ⟨⟨rfl, rfl, _, rfl, .refl _⟩, trivial⟩
  · have hL := list_is s4 (by decide)
    have hT := list_is s4 (by decide)
    have hV := victim_ok (ltr s4) 2 (by decide +kernel) (by decide +kernel) (by decide +kernel)
    rw [show vAt (ltr s4) 2 = 1 by decide +kernel, show vAfter (ltr s4) 2 = 2 by decide +kernel] at hV
    have hS := refsame_is (vNext (ltr s4) 2) (ltr s4) (by decide +kernel) (by decide +kernel)
    rw [show decide (vNext (ltr s4) 2 = ltr s4) = true by decide +kernel, if_pos rfl] at hS
    refine wc_of ?_
    refine wc_seq ?_
    refine wc_region ?_
    refine reg_quiet rfl (step_C tab_ok (fun K hk => hk)) ?_
    refine reg_nil ?_
    refine seq_n ?_
    refine wc_seq ?_
    refine wc_true rfl rfl ?_
    refine wc_skip ?_
    refine seq_n ?_
    refine wc_seq ?_
    refine wc_block ?_
    refine wc_seq ?_
    refine wc_region ?_
    refine reg_quiet rfl (step_C tab_ok (fun K hk => hk)) ?_
    refine reg_quiet rfl (index_own tab_ok rfl rfl rfl rfl rfl (by decide) (by decide)) ?_
    refine reg_quiet rfl (load_row tab_ok rfl rfl ⟨rfl, by decide, rfl⟩ rfl) ?_
    refine reg_quiet rfl (step_C tab_ok (fun K hk => hk)) ?_
    refine reg_quiet rfl (step_C tab_ok (fun K hk => hk)) ?_
    refine reg_nil ?_
    refine seq_n ?_
    refine wc_seq ?_
    refine wc_draw (by kernel_rfl) ?_
    refine dreg_step rfl (step_C tab_ok (fun K hk => hk)) rfl rfl ?_
    refine dreg_step rfl (call_new hL rfl rfl (arg_e arg_nil) (.inl rfl) rfl rfl) rfl rfl ?_
    refine dreg_step rfl (build_arr_of tab_ok rfl rfl rfl rfl rfl rfl rfl) rfl rfl ?_
    refine dreg_step rfl (step_C tab_ok (fun K hk => hk)) rfl rfl ?_
    refine dreg_step rfl (index_vec tab_ok rfl rfl rfl rfl rfl (by decide) (by decide) rfl rfl) rfl rfl ?_
    refine dreg_step rfl (call_new hV rfl rfl (arg_own rfl (arg_e arg_nil)) (.inr (victim_plain _ _ _ _ _ _)) rfl rfl) rfl rfl ?_
    refine dreg_step rfl (step_C tab_ok (fun K hk => hk)) rfl rfl ?_
    refine dreg_step rfl (step_C tab_ok (fun K hk => hk)) rfl rfl ?_
    refine dreg_step rfl (step_C tab_ok (fun K hk => hk)) rfl rfl ?_
    refine dreg_step rfl (step_C tab_ok (fun K hk => hk)) rfl rfl ?_
    refine dreg_step rfl (step_C tab_ok (fun K hk => hk)) rfl rfl ?_
    refine dreg_step rfl (step_C tab_ok (fun K hk => hk)) rfl rfl ?_
    refine dreg_step rfl (step_C tab_ok (fun K hk => hk)) rfl rfl ?_
    refine dreg_step rfl (step_C tab_ok (fun K hk => hk)) rfl rfl ?_
    refine dreg_step rfl (step_C tab_ok (fun K hk => hk)) rfl rfl ?_
    refine dreg_nil (by kernel_rfl) ?_
    refine seq_n ?_
    refine wc_seq ?_
    refine wc_region ?_
    refine reg_quiet rfl (step_C tab_ok (fun K hk => hk)) ?_
    refine reg_quiet rfl (step_C tab_ok (fun K hk => hk)) ?_
    refine reg_quiet rfl (step_C tab_ok (fun K hk => hk)) ?_
    refine reg_on rfl rfl rfl ?_
    refine reg_quiet rfl (step_C tab_ok (fun K hk => hk)) ?_
    refine reg_on rfl rfl rfl ?_
    refine reg_quiet rfl (build_arr_of tab_ok rfl rfl rfl rfl rfl rfl rfl) ?_
    refine reg_on rfl rfl rfl ?_
    refine reg_quiet rfl (step_C tab_ok (fun K hk => hk)) ?_
    refine reg_on rfl rfl rfl ?_
    refine reg_quiet rfl (index_vec tab_ok rfl rfl rfl rfl rfl (by decide) (by decide) rfl rfl) ?_
    refine reg_on rfl rfl rfl ?_
    refine reg_quiet rfl (step_C tab_ok (fun K hk => hk)) ?_
    refine reg_quiet rfl (pick_F tab_ok rfl rfl rfl) ?_
    refine reg_quiet rfl (step_C tab_ok (fun K hk => hk)) ?_
    refine reg_on rfl rfl rfl ?_
    refine reg_quiet rfl (step_C tab_ok (fun K hk => hk)) ?_
    refine reg_on rfl rfl rfl ?_
    refine reg_quiet rfl (build_arr_of tab_ok rfl rfl rfl rfl rfl rfl rfl) ?_
    refine reg_on rfl rfl rfl ?_
    refine reg_quiet rfl (step_C tab_ok (fun K hk => hk)) ?_
    refine reg_on rfl rfl rfl ?_
    refine reg_quiet rfl (index_vec tab_ok rfl rfl rfl rfl rfl (by decide) (by decide) rfl rfl) ?_
    refine reg_on rfl rfl rfl ?_
    refine reg_quiet rfl (step_C tab_ok (fun K hk => hk)) ?_
    refine reg_quiet rfl (pick_F tab_ok rfl rfl rfl) ?_
    refine reg_quiet rfl (step_C tab_ok (fun K hk => hk)) ?_
    refine reg_on rfl rfl rfl ?_
    refine reg_quiet rfl (step_C tab_ok (fun K hk => hk)) ?_
    refine reg_on rfl rfl rfl ?_
    refine reg_quiet rfl (build_arr_of tab_ok rfl rfl rfl rfl rfl rfl rfl) ?_
    refine reg_on rfl rfl rfl ?_
    refine reg_quiet rfl (step_C tab_ok (fun K hk => hk)) ?_
    refine reg_on rfl rfl rfl ?_
    refine reg_quiet rfl (index_vec tab_ok rfl rfl rfl rfl rfl (by decide) (by decide) rfl rfl) ?_
    refine reg_on rfl rfl rfl ?_
    refine reg_new (call_new hL rfl rfl (arg_e arg_nil) (.inl rfl) rfl rfl) rfl ?_
    refine reg_on rfl rfl rfl ?_
    refine reg_quiet rfl (call_r hS rfl rfl (arg_own rfl (arg_own rfl arg_nil)) (.inr (PlainRes.sc _)) (fun _ => rfl)) ?_
    refine reg_on rfl rfl rfl ?_
    refine reg_quiet rfl (step_C tab_ok (fun K hk => hk)) ?_
    refine reg_quiet rfl (pick_F tab_ok rfl rfl rfl) ?_
    refine reg_nil ?_
    refine seq_n ?_
    refine wc_false rfl rfl ?_
    refine wc_skip ?_
    refine blk_n ?_
    refine seq_n ?_
    refine wc_region ?_
    refine reg_quiet rfl (add_int tab_ok rfl rfl (wrap_i64 (by omega) (by omega))) ?_
    refine reg_quiet rfl (step_C tab_ok (fun K hk => hk)) ?_
    refine reg_nil ?_
    refine loop_n 6 [] (by decide) (by decide) ?_
    exact .of rfl rfl rfl rfl rfl ⟨⟨_, rfl, .refl _⟩, rfl, ⟨_, rfl, .refl _⟩, rfl, ⟨_, rfl, .refl _⟩, rfl, trivial⟩ ⟨⟨rfl, rfl, _, rfl, .refl _⟩, trivial⟩
  · have hL1 := list_is s6 (by decide)
    have hL2 := list_is s7 (by decide)
    have hL3 := list_is s8 (by decide)
    have hL4 := list_is s9 (by decide)
    have hL5 := list_is s10 (by decide)
    have hV1 := victim_none (ltr s6) 0 (by decide +kernel) (by decide +kernel) (by decide +kernel)
    have hV2 := victim_arg (ltr s7) 1 (by decide +kernel)
    have hV3 := victim_arg [] 0 (by decide +kernel)
    have hW3 := waiting_is (ltr s8) (by decide +kernel)
    rw [show (if fidx (fun f => f.dirty && !f.busy) (ltr s8) < 0 then 0 else fidx (fun f => f.dirty && !f.busy) (ltr s8)) = 2 by decide +kernel, show ((ltr s8).any fun f => f.dirty && !f.busy) = true by decide +kernel] at hW3
    have hW4 := waiting_is (ltr s9) (by decide +kernel)
    rw [show (if fidx (fun f => f.dirty && !f.busy) (ltr s9) < 0 then 0 else fidx (fun f => f.dirty && !f.busy) (ltr s9)) = 0 by decide +kernel, show ((ltr s9).any fun f => f.dirty && !f.busy) = false by decide +kernel] at hW4
    have hE1 := exists_is (ltr s6) (by decide +kernel)
    rw [show ((ltr s6).any fun f => !f.used || evB f) = false by decide +kernel] at hE1
    have hE5 := exists_is (ltr s10) (by decide +kernel)
    rw [show ((ltr s10).any fun f => !f.used || evB f) = true by decide +kernel] at hE5
    refine wc_of ?_
    refine wc_seq ?_
    refine wc_region ?_
    refine reg_quiet rfl (step_C tab_ok (fun K hk => hk)) ?_
    refine reg_nil ?_
    refine seq_n ?_
    refine wc_seq ?_
    refine wc_false rfl rfl ?_
    refine wc_exit ?_
    refine seq_x ?_
    refine loop_x ?_
    refine blk_x ?_
    refine seq_n ?_
    refine wc_seq ?_
    refine wc_region ?_
    refine reg_new (call_new hL1 rfl rfl (arg_e arg_nil) (.inl rfl) rfl rfl) rfl ?_
    refine reg_quiet rfl (call_new hV1 rfl rfl (arg_own rfl (arg_e arg_nil)) (.inr (victim_plain0 _ _ _)) rfl rfl) ?_
    refine reg_quiet rfl (step_C tab_ok (fun K hk => hk)) ?_
    refine reg_quiet rfl (step_C tab_ok (fun K hk => hk)) ?_
    refine reg_quiet rfl (step_C tab_ok (fun K hk => hk)) ?_
    refine reg_quiet rfl (step_C tab_ok (fun K hk => hk)) ?_
    refine reg_quiet rfl (step_C tab_ok (fun K hk => hk)) ?_
    refine reg_quiet rfl (step_C tab_ok (fun K hk => hk)) ?_
    refine reg_quiet rfl (step_C tab_ok (fun K hk => hk)) ?_
    refine reg_quiet rfl (step_C tab_ok (fun K hk => hk)) ?_
    refine reg_quiet rfl (step_C tab_ok (fun K hk => hk)) ?_
    refine reg_nil ?_
    refine seq_n ?_
    refine wc_seq ?_
    refine wc_region ?_
    refine reg_new (call_new hL2 rfl rfl (arg_e arg_nil) (.inl rfl) rfl rfl) rfl ?_
    refine reg_quiet rfl (call_new hV2 rfl rfl (arg_own rfl (arg_e arg_nil)) (.inr (victim_plain0 _ _ _)) rfl rfl) ?_
    refine reg_quiet rfl (step_C tab_ok (fun K hk => hk)) ?_
    refine reg_quiet rfl (step_C tab_ok (fun K hk => hk)) ?_
    refine reg_quiet rfl (step_C tab_ok (fun K hk => hk)) ?_
    refine reg_quiet rfl (step_C tab_ok (fun K hk => hk)) ?_
    refine reg_quiet rfl (step_C tab_ok (fun K hk => hk)) ?_
    refine reg_quiet rfl (step_C tab_ok (fun K hk => hk)) ?_
    refine reg_quiet rfl (step_C tab_ok (fun K hk => hk)) ?_
    refine reg_quiet rfl (step_C tab_ok (fun K hk => hk)) ?_
    refine reg_quiet rfl (step_C tab_ok (fun K hk => hk)) ?_
    refine reg_nil ?_
    refine seq_n ?_
    refine wc_seq ?_
    refine wc_region ?_
    refine reg_quiet rfl (call_new hV3 rfl rfl (arg_nilslice (arg_e arg_nil)) (.inl rfl) rfl rfl) ?_
    refine reg_quiet rfl (step_C tab_ok (fun K hk => hk)) ?_
    refine reg_quiet rfl (step_C tab_ok (fun K hk => hk)) ?_
    refine reg_quiet rfl (step_C tab_ok (fun K hk => hk)) ?_
    refine reg_quiet rfl (step_C tab_ok (fun K hk => hk)) ?_
    refine reg_quiet rfl (step_C tab_ok (fun K hk => hk)) ?_
    refine reg_quiet rfl (step_C tab_ok (fun K hk => hk)) ?_
    refine reg_quiet rfl (step_C tab_ok (fun K hk => hk)) ?_
    refine reg_quiet rfl (step_C tab_ok (fun K hk => hk)) ?_
    refine reg_quiet rfl (step_C tab_ok (fun K hk => hk)) ?_
    refine reg_nil ?_
    refine seq_n ?_
    refine wc_seq ?_
    refine wc_region ?_
    refine reg_new (call_new hL3 rfl rfl (arg_e arg_nil) (.inl rfl) rfl rfl) rfl ?_
    refine reg_quiet rfl (call_r hW3 rfl rfl (arg_own rfl arg_nil) (.inr (tup2_plain _ _)) (fun _ => rfl)) ?_
    refine reg_quiet rfl (step_C tab_ok (fun K hk => hk)) ?_
    refine reg_quiet rfl (step_C tab_ok (fun K hk => hk)) ?_
    refine reg_quiet rfl (step_C tab_ok (fun K hk => hk)) ?_
    refine reg_quiet rfl (step_C tab_ok (fun K hk => hk)) ?_
    refine reg_quiet rfl (step_C tab_ok (fun K hk => hk)) ?_
    refine reg_nil ?_
    refine seq_n ?_
    refine wc_seq ?_
    refine wc_region ?_
    refine reg_new (call_new hL4 rfl rfl (arg_e arg_nil) (.inl rfl) rfl rfl) rfl ?_
    refine reg_quiet rfl (call_r hW4 rfl rfl (arg_own rfl arg_nil) (.inr (tup2_plain _ _)) (fun _ => rfl)) ?_
    refine reg_quiet rfl (step_C tab_ok (fun K hk => hk)) ?_
    refine reg_quiet rfl (step_C tab_ok (fun K hk => hk)) ?_
    refine reg_quiet rfl (step_C tab_ok (fun K hk => hk)) ?_
    refine reg_quiet rfl (step_C tab_ok (fun K hk => hk)) ?_
    refine reg_quiet rfl (step_C tab_ok (fun K hk => hk)) ?_
    refine reg_nil ?_
    refine seq_n ?_
    refine wc_seq ?_
    refine wc_region ?_
    refine reg_quiet rfl (step_C tab_ok (fun K hk => hk)) ?_
    refine reg_quiet rfl (step_C tab_ok (fun K hk => hk)) ?_
    refine reg_quiet rfl (step_C tab_ok (fun K hk => hk)) ?_
    refine reg_on rfl rfl rfl ?_
    refine reg_quiet rfl (step_C tab_ok (fun K hk => hk)) ?_
    refine reg_on rfl rfl rfl ?_
    refine reg_quiet rfl (step_C tab_ok (fun K hk => hk)) ?_
    refine reg_quiet rfl (pick_T tab_ok rfl rfl rfl) ?_
    refine reg_quiet rfl (step_C tab_ok (fun K hk => hk)) ?_
    refine reg_on rfl rfl rfl ?_
    refine reg_quiet rfl (step_C tab_ok (fun K hk => hk)) ?_
    refine reg_on rfl rfl rfl ?_
    refine reg_quiet rfl (step_C tab_ok (fun K hk => hk)) ?_
    refine reg_quiet rfl (pick_T tab_ok rfl rfl rfl) ?_
    refine reg_quiet rfl (step_C tab_ok (fun K hk => hk)) ?_
    refine reg_on rfl rfl rfl ?_
    refine reg_new (call_new hL1 rfl rfl (arg_e arg_nil) (.inl rfl) rfl rfl) rfl ?_
    refine reg_on rfl rfl rfl ?_
    refine reg_quiet rfl (call_r hE1 rfl rfl (arg_own rfl arg_nil) (.inr (PlainRes.sc _)) (fun _ => rfl)) ?_
    refine reg_on rfl rfl rfl ?_
    refine reg_quiet rfl (step_C tab_ok (fun K hk => hk)) ?_
    refine reg_quiet rfl (pick_T tab_ok rfl rfl rfl) ?_
    refine reg_quiet rfl (step_C tab_ok (fun K hk => hk)) ?_
    refine reg_on rfl rfl rfl ?_
    refine reg_new (call_new hL5 rfl rfl (arg_e arg_nil) (.inl rfl) rfl rfl) rfl ?_
    refine reg_on rfl rfl rfl ?_
    refine reg_quiet rfl (call_r hE5 rfl rfl (arg_own rfl arg_nil) (.inr (PlainRes.sc _)) (fun _ => rfl)) ?_
    refine reg_quiet rfl (pick_T tab_ok rfl rfl rfl) ?_
    refine reg_quiet rfl (step_C tab_ok (fun K hk => hk)) ?_
    refine reg_on rfl rfl rfl ?_
    refine reg_quiet rfl (step_C tab_ok (fun K hk => hk)) ?_
    refine reg_on rfl rfl rfl ?_
    refine reg_quiet rfl (step_C tab_ok (fun K hk => hk)) ?_
    refine reg_quiet rfl (pick_T tab_ok rfl rfl rfl) ?_
    refine reg_quiet rfl (step_C tab_ok (fun K hk => hk)) ?_
    refine reg_on rfl rfl rfl ?_
    refine reg_quiet rfl (step_C tab_ok (fun K hk => hk)) ?_
    refine reg_quiet rfl (pick_T tab_ok rfl rfl rfl) ?_
    refine reg_quiet rfl (step_C tab_ok (fun K hk => hk)) ?_
    refine reg_on rfl rfl rfl ?_
    refine reg_quiet rfl (step_C tab_ok (fun K hk => hk)) ?_
    refine reg_on rfl rfl rfl ?_
    refine reg_quiet rfl (step_C tab_ok (fun K hk => hk)) ?_
    refine reg_quiet rfl (pick_T tab_ok rfl rfl rfl) ?_
    refine reg_quiet rfl (step_C tab_ok (fun K hk => hk)) ?_
    refine reg_on rfl rfl rfl ?_
    refine reg_quiet rfl (step_C tab_ok (fun K hk => hk)) ?_
    refine reg_on rfl rfl rfl ?_
    refine reg_quiet rfl (step_C tab_ok (fun K hk => hk)) ?_
    refine reg_quiet rfl (pick_T tab_ok rfl rfl rfl) ?_
    refine reg_quiet rfl (step_C tab_ok (fun K hk => hk)) ?_
    refine reg_nil ?_
    refine seq_n ?_
    refine wc_ret ?_
    exact ⟨trivial, [], .of rfl rfl rfl rfl rfl ⟨⟨_, rfl, AVLe.of_eq rfl⟩, rfl, trivial⟩ trivial⟩
end Go.Proofs.Ytmdfeekpehcieaa
