/- FramesClock walked. -/
import Derived.Test.YtmdfeekpehcieaaFC
import Derived.Test.YtmdfeekpehcieaaEngB

set_option linter.unusedVariables false
set_option linter.unusedSimpArgs false

/- The order in which the victims come. -/
namespace Go.Proofs.Ytmdfeekpehcieaa
open Go.Eng
/-- Every frame used, and none Ref. -/
def fillF0 (i : Nat) (f : Frame) : Frame := { fillF i f with ref := false }
def fill0 (l : List Frame) : List Frame := l.mapIdx fillF0
def mix0 (l : List Frame) (i : Nat) : List Frame := (fill0 l).take i ++ l.drop i
theorem fill0_len (l : List Frame) : (fill0 l).length = l.length := by simp [fill0]
theorem fill0_get {l : List Frame} {i : Nat} {f : Frame} (h : l[i]? = some f) : (fill0 l)[i]? = some (fillF0 i f) := by simp [fill0, h]
theorem mix0_len {l : List Frame} {i : Nat} (h : i ≤ l.length) : (mix0 l i).length = l.length := by simp [mix0, fill0_len]; omega
theorem mix0_zero (l : List Frame) : mix0 l 0 = l := by simp [mix0]
theorem mix0_get {l : List Frame} {i : Nat} {f : Frame} (h : l[i]? = some f) : (mix0 l i)[i]? = some f := by
  have := (List.getElem?_eq_some_iff.1 h).1
  rw [mix0, List.getElem?_append_right (by simp [fill0_len]; omega)]
  simp only [List.length_take, fill0_len, List.getElem?_drop]
  rw [show i + (i - min i l.length) = i by omega]; exact h
theorem mix0_set {l : List Frame} {i : Nat} {f : Frame} (h : l[i]? = some f) : (mix0 l i).set i (fillF0 i f) = mix0 l (i + 1) := by
  have hi := (List.getElem?_eq_some_iff.1 h).1
  apply List.ext_getElem?
  intro j
  rw [List.getElem?_set]
  have hlen : i < (mix0 l i).length := by rw [mix0_len (by omega)]; exact hi
  rcases Nat.lt_trichotomy i j with hj | rfl | hj
  · rw [if_neg (by omega), mix0, mix0, List.getElem?_append_right (by simp [fill0_len]; omega), List.getElem?_append_right (by simp [fill0_len]; omega)]
    simp only [List.length_take, fill0_len, List.getElem?_drop]
    rw [show i + (j - min i l.length) = i + 1 + (j - min (i + 1) l.length) by omega]
  · rw [if_pos rfl, if_pos hlen, mix0, List.getElem?_append_left (by simp [fill0_len]; omega), List.getElem?_take, if_pos (by omega), fill0_get h]
  · rw [if_neg (by omega), mix0, mix0, List.getElem?_append_left (by simp [fill0_len]; omega), List.getElem?_append_left (by simp [fill0_len]; omega), List.getElem?_take, List.getElem?_take, if_pos hj, if_pos (by omega)]
theorem mix0_full (l : List Frame) : mix0 l l.length = fill0 l := by simp [mix0, ← fill0_len l]

structure Calm (F : List Frame) : Prop where
  used : ∀ f ∈ F, f.used = true
  ref : ∀ f ∈ F, f.ref = false
theorem fill0_calm (l : List Frame) : Calm (fill0 l) := by
  constructor <;> intro f hf <;> obtain ⟨i, hi, rfl⟩ := List.getElem_of_mem hf
  · simp [fill0, fillF0, fillF_used]
  · simp [fill0, fillF0]

/-- Evictable at an unwrapped place. -/
def evAt (F : List Frame) (p : Nat) : Bool := match F[p % F.length]? with
  | some f => evB f
  | none => false
/-- How many are evictable among the first i. -/
def cntE (F : List Frame) : Nat → Nat
  | 0 => 0
  | i + 1 => cntE F i + (match F[i]? with | some f => (if evB f = true then 1 else 0) | none => 0)
theorem cntE_le (F : List Frame) : ∀ i, cntE F i ≤ i
  | 0 => Nat.le_refl _
  | i + 1 => by
    have := cntE_le F i
    simp only [cntE]
    split
    · split <;> omega
    · omega

/-- The unwrapped places from one on. -/
def places (F : List Frame) (s n : Nat) : List Nat := (List.range' s n).filter (evAt F)
theorem places_add (F : List Frame) (s n m : Nat) : places F s (n + m) = places F s n ++ places F (s + n) m := by
  simp [places, ← List.range'_append_1, List.filter_append]
theorem evAt_add (F : List Frame) (p : Nat) : evAt F (p + F.length) = evAt F p := by simp [evAt]
theorem places_shift (F : List Frame) (s n : Nat) : places F (s + F.length) n = (places F s n).map (· + F.length) := by
  induction n generalizing s with
  | zero => rfl
  | succ n ih =>
    have h := ih (s + 1)
    rw [show s + 1 + F.length = s + F.length + 1 by omega] at h
    simp only [places, List.range'_succ] at h ⊢
    rw [List.filter_cons, List.filter_cons, evAt_add, h]
    split <;> simp
theorem places_len (F : List Frame) : (places F 0 F.length).length = cntE F F.length := by
  have key : ∀ i, i ≤ F.length → (places F 0 i).length = cntE F i := by
    intro i
    induction i with
    | zero => intro _; rfl
    | succ i ih =>
      intro hi
      rw [places_add, List.length_append, ih (by omega), cntE]
      have hlt : i < F.length := by omega
      have : places F (0 + i) 1 = if evAt F i = true then [i] else [] := by
        simp [places, List.range'_succ, List.filter_cons]
      rw [this]
      simp only [evAt, Nat.mod_eq_of_lt hlt]
      have hf : F[i]? = some F[i] := by simp
      rw [hf]
      simp only
      split <;> simp
  exact key _ (Nat.le_refl _)
/-- A whole round holds each once. -/
theorem places_round (F : List Frame) (s : Nat) : (places F s F.length).length = cntE F F.length := by
  rw [← places_len]
  induction s with
  | zero => rfl
  | succ s ih =>
    rw [← ih]
    -- the first goes, and comes again behind the last
    rcases Nat.eq_zero_or_pos F.length with h0 | h0
    · simp [h0, places]
    · obtain ⟨n, hn⟩ : ∃ n, F.length = n + 1 := ⟨F.length - 1, by omega⟩
      have h1 : places F s F.length = places F s 1 ++ places F (s + 1) n := by rw [hn, Nat.add_comm n 1, places_add]
      have h2 : places F (s + 1) F.length = places F (s + 1) n ++ places F (s + 1 + n) 1 := by rw [← places_add, ← hn]
      have h3 : places F (s + 1 + n) 1 = (places F s 1).map (· + F.length) := by rw [← places_shift]; congr 1; omega
      rw [h1, h2, h3]
      simp only [List.length_append, List.length_map]
      omega

theorem places_sorted (F : List Frame) (s n : Nat) : (places F s n).Pairwise (· < ·) := List.Pairwise.filter _ List.pairwise_lt_range'
theorem places_mem {F : List Frame} {s n p : Nat} : p ∈ places F s n ↔ (s ≤ p ∧ p < s + n) ∧ evAt F p = true := by simp [places, List.mem_range'_1]

theorem sweep_calm {F : List Frame} (hF : Calm F) (h : Nat) : ∀ k, sweep F h k = F
  | 0 => rfl
  | k + 1 => by
    rw [sweep, sweep_calm hF h k, bump]
    cases hx : F[(h + k) % F.length]? with
    | none => rfl
    | some f =>
      have hr := hF.ref f (List.mem_of_getElem? hx)
      simp only
      split
      · have hff : ({ f with ref := false } : Frame) = f := by rw [← hr]
        rw [hff]
        apply List.ext_getElem?
        intro j
        rw [List.getElem?_set]
        split
        · rename_i e; subst e
          have := (List.getElem?_eq_some_iff.1 hx).1
          rw [if_pos this, hx]
        · rfl
      · rfl
theorem stop_calm {F : List Frame} (hF : Calm F) (h k : Nat) : stopB F h k = evAt F (h + k) := by
  simp only [stopB, sweep_calm hF, evAt]
  cases hx : F[(h + k) % F.length]? with
  | none => rfl
  | some f => simp [hF.ref f (List.mem_of_getElem? hx)]

/-- The victim of a calm list: the next place that is evictable. -/
theorem calm_victim {F : List Frame} (hF : Calm F) {c p : Nat} (hcp : c ≤ p) (hp : evAt F p = true) (hno : ∀ q, c ≤ q → q < p → evAt F q = false) (hpos : 0 < F.length) :
    vAt F (c % F.length) = ((p % F.length : Nat) : Int) ∧ vNext F (c % F.length) = F ∧ vAfter F (c % F.length) = (((p + 1) % F.length : Nat) : Int) := by
  have hu : (F.any fun f => !f.used) = false := by
    rw [List.any_eq_false]; intro f hf; simp [hF.used f hf]
  have hmod : ∀ k, evAt F (c % F.length + k) = evAt F (c + k) := fun k => by simp [evAt, Nat.mod_add_mod]
  have hev : F.any evB = true := by
    simp only [evAt] at hp
    cases hx : F[p % F.length]? with
    | none => rw [hx] at hp; cases hp
    | some f => rw [hx] at hp; exact any_hit hx hp
  have hclk : clock F (c % F.length) = p - c := by
    refine clock_hit hev (fun j hj => ?_) ?_
    · rw [stop_calm hF, hmod]; exact hno _ (by omega) (by omega)
    · rw [stop_calm hF, hmod, show c + (p - c) = p by omega]; exact hp
  have hat : (c % F.length + (p - c)) % F.length = p % F.length := by rw [Nat.mod_add_mod, show c + (p - c) = p by omega]
  simp only [vAt, vNext, vAfter, hu, Bool.false_eq_true, if_false, hclk, hat, sweep_calm hF, Nat.mod_add_mod, and_self]

/-- The places of two rounds. -/
theorem two_rounds (F : List Frame) (h : Nat) : places F h (2 * F.length) = places F h F.length ++ (places F h F.length).map (· + F.length) := by
  rw [show 2 * F.length = F.length + F.length by omega, places_add, places_shift]

/-- What is known at the head of the law's loop: k victims have come. -/
structure At (F : List Frame) (h k cur : Nat) : Prop where
  lo : h ≤ cur
  hi : cur ≤ h + 2 * F.length
  rest : (places F h (2 * F.length)).drop k = places F cur (h + 2 * F.length - cur)

theorem at_zero (F : List Frame) (h : Nat) : At F h 0 h := ⟨Nat.le_refl _, by omega, by rw [List.drop_zero]; congr 1; omega⟩

/-- The k-th victim. -/
theorem at_next {F : List Frame} {h k cur : Nat} (ha : At F h k cur) (hk : k < (places F h (2 * F.length)).length) :
    ∃ p, (places F h (2 * F.length))[k]? = some p ∧ cur ≤ p ∧ evAt F p = true ∧ (∀ q, cur ≤ q → q < p → evAt F q = false) ∧ At F h (k + 1) (p + 1) := by
  have hp : (places F h (2 * F.length))[k]? = some (places F h (2 * F.length))[k] := by simp
  obtain ⟨p, hpe⟩ : ∃ p, (places F h (2 * F.length))[k] = p := ⟨_, rfl⟩
  rw [hpe] at hp
  have hdrop : (places F h (2 * F.length)).drop k = p :: (places F h (2 * F.length)).drop (k + 1) := by rw [← hpe, List.drop_eq_getElem_cons hk]
  have hcons := ha.rest.symm.trans hdrop
  have hpm : p ∈ places F cur (h + 2 * F.length - cur) := by rw [hcons]; simp
  obtain ⟨⟨h1, h2⟩, h3⟩ := places_mem.1 hpm
  have hsort := places_sorted F cur (h + 2 * F.length - cur)
  rw [hcons, List.pairwise_cons] at hsort
  have hlo := ha.lo
  have hhi := ha.hi
  have hno : ∀ q, cur ≤ q → q < p → evAt F q = false := by
    intro q hq1 hq2
    cases hq : evAt F q
    · rfl
    · exfalso
      have hqm : q ∈ places F cur (h + 2 * F.length - cur) := places_mem.2 ⟨⟨hq1, by omega⟩, hq⟩
      rw [hcons] at hqm
      rcases List.mem_cons.1 hqm with rfl | hqm
      · omega
      · have := hsort.1 q hqm; omega
  refine ⟨p, hp, h1, h3, hno, ⟨by omega, by omega, ?_⟩⟩
  -- what comes behind p
  have hsplit : places F cur (h + 2 * F.length - cur) = places F cur (p - cur) ++ (places F p 1 ++ places F (p + 1) (h + 2 * F.length - (p + 1))) := by
    have e1 : h + 2 * F.length - cur = (p - cur) + (1 + (h + 2 * F.length - (p + 1))) := by omega
    rw [e1, places_add, places_add, show cur + (p - cur) = p by omega]
  have hz : places F cur (p - cur) = [] := by
    rw [List.eq_nil_iff_forall_not_mem]
    intro q hq
    obtain ⟨⟨g1, g2⟩, g3⟩ := places_mem.1 hq
    rw [hno q g1 (by omega)] at g3; cases g3
  have ho : places F p 1 = [p] := by simp [places, List.range'_succ, h3]
  rw [hz, ho, List.nil_append, List.singleton_append] at hsplit
  have := hcons.symm.trans hsplit
  simp only [List.cons.injEq, true_and] at this
  exact this
end Go.Proofs.Ytmdfeekpehcieaa

/- FramesClock: all evictable frames come, each once, and then again in the same order. -/
namespace Go.Proofs.Ytmdfeekpehcieaa
open Go.Eng
set_option maxHeartbeats 2000000
attribute [local irreducible] WC RegS RegD SeqQ BlkQ ScoQ RegK CutK Sat SatN FnIs LoopQ StepIs OpIs
abbrev u8c (n : Int) : D := .sc (.int .u8 n)
def seenK (F : List Frame) (h k : Nat) : List Int := ((places F h (2 * F.length)).take (min k (cntE F F.length))).map fun p => ((p % F.length : Nat) : Int)
theorem RowLe.unexact {α : Type} {t s : Nat} {enc : α → D} {xs : List α} {ex : Bool} : RowLe (.ds t s ex enc xs) (.ds t s false enc xs) := by
  intro σ w X r h
  rcases h with h | ⟨b, c, cur, h1, _, h2⟩
  · exact .inl h
  · exact .inr ⟨b, c, cur, h1, fun e => (by cases e), h2⟩
theorem P_len (F : List Frame) (h : Nat) : (places F h (2 * F.length)).length = 2 * cntE F F.length := by
  rw [two_rounds, List.length_append, List.length_map, places_round]; omega
theorem seenK_len {F : List Frame} {h k : Nat} (hk : k ≤ cntE F F.length) : (seenK F h k).length = k := by
  rw [seenK, List.length_map, List.length_take, P_len]; omega
/-- A place of the first round is not seen again ahead of its end. -/
theorem seen_new {F : List Frame} {h k i p : Nat} (hk : k < cntE F F.length) (hi : i < k) (hp : (places F h (2 * F.length))[k]? = some p) : ∃ v, (seenK F h k)[i]? = some v ∧ ¬ v = ((p % F.length : Nat) : Int) := by
  have hl := P_len F h
  obtain ⟨q, hq⟩ : ∃ q, (places F h (2 * F.length))[i]? = some q := ⟨_, List.getElem?_eq_getElem (by omega)⟩
  refine ⟨((q % F.length : Nat) : Int), by rw [seenK, List.getElem?_map, List.getElem?_take, if_pos (by omega), hq]; rfl, fun e => ?_⟩
  have e : q % F.length = p % F.length := by exact_mod_cast e
  have hA : ∀ j r, j < cntE F F.length → (places F h (2 * F.length))[j]? = some r → r ∈ places F h F.length := by
    intro j r hj hr
    rw [two_rounds, List.getElem?_append_left (by rw [places_round]; exact hj)] at hr
    exact List.mem_of_getElem? hr
  obtain ⟨⟨a1, a2⟩, _⟩ := places_mem.1 (hA i q (by omega) hq)
  obtain ⟨⟨b1, b2⟩, _⟩ := places_mem.1 (hA k p hk hp)
  have hlt : q < p := by
    obtain ⟨g1, rfl⟩ := List.getElem?_eq_some_iff.1 hq
    obtain ⟨g2, rfl⟩ := List.getElem?_eq_some_iff.1 hp
    exact List.pairwise_iff_getElem.1 (places_sorted F h (2 * F.length)) i k g1 g2 hi
  have h1 : p % F.length = (q % F.length + (p - q)) % F.length := by rw [Nat.mod_add_mod]; congr 1; omega
  rw [h1] at e
  have hm := Nat.mod_lt q (show 0 < F.length by omega)
  have hlt3 : p - q < F.length := by omega
  rcases Nat.lt_or_ge (q % F.length + (p - q)) F.length with h4 | h4
  · have h5 := Nat.mod_eq_of_lt h4
    omega
  · have h5 := Nat.mod_eq_sub_mod h4
    have h6 := Nat.mod_eq_of_lt (show q % F.length + (p - q) - F.length < F.length by omega)
    omega
def curK (F : List Frame) (h : Nat) : Nat → Nat
  | 0 => h
  | k + 1 => ((places F h (2 * F.length))[k]?).getD 0 + 1
/-- The second round is the first. -/
theorem seen_old {F : List Frame} {h k p : Nat} (hk : cntE F F.length ≤ k) (hk2 : k < 2 * cntE F F.length) (hp : (places F h (2 * F.length))[k]? = some p) : (seenK F h k)[k - cntE F F.length]? = some ((p % F.length : Nat) : Int) := by
  have hlr := places_round F h
  rw [two_rounds, List.getElem?_append_right (by rw [hlr]; exact hk), hlr, List.getElem?_map] at hp
  obtain ⟨q, hq, rfl⟩ := Option.map_eq_some_iff.1 hp
  rw [seenK, List.getElem?_map, List.getElem?_take, if_pos (by omega), two_rounds, List.getElem?_append_left (by rw [hlr]; omega), hq]
  simp
theorem seen_more {F : List Frame} {h k p : Nat} (hk : k < cntE F F.length) (hp : (places F h (2 * F.length))[k]? = some p) : seenK F h (k + 1) = seenK F h k ++ [((p % F.length : Nat) : Int)] := by
  rw [seenK, seenK, show min (k + 1) (cntE F F.length) = min k (cntE F F.length) + 1 by omega, List.take_add_one, show min k (cntE F F.length) = k by omega, hp]
  simp
theorem seen_same {F : List Frame} {h k : Nat} (hk : cntE F F.length ≤ k) : seenK F h (k + 1) = seenK F h k := by
  rw [seenK, seenK, show min (k + 1) (cntE F F.length) = min k (cntE F F.length) by omega]
theorem framesClock_is (L : List Int) (hL : Bytes L) (hand : Int) (hh : 0 ≤ hand ∧ hand ≤ 255) : FnIs Try.prog 4 [.d (encF L), .d (u8c hand)] [] (.bool true) [] := by
  refine fnIs_of tab_ok Try.func4 rfl rfl rfl ?_
  have hlen12 : (ofL L).length ≤ 12 := by rw [ofL, ofK_len]; omega
  refine wc_seq ?_
  refine wc_region ?_
  refine reg_new (step_C tab_ok (fun K hk => hk)) rfl ?_
  refine reg_quiet rfl (step_C tab_ok (fun K hk => hk)) ?_
  refine reg_nil ?_
  refine seq_n ?_
  refine wc_seq ?_
  refine wc_region ?_
  refine reg_quiet rfl (load_box tab_ok rfl rfl rfl rfl) ?_
  refine reg_new (call_new (of_is L hL) rfl rfl (arg_e arg_nil) (.inl rfl) rfl rfl) rfl ?_
  refine reg_quiet rfl (step_C tab_ok (fun K hk => hk)) ?_
  refine reg_nil ?_
  refine seq_n ?_
  refine wc_seq ?_
  refine wc_region ?_
  refine reg_quiet rfl (step_C tab_ok (fun K hk => hk)) ?_
  refine reg_nil ?_
  refine seq_n ?_
  refine wc_seq ?_
  refine wc_seq ?_
  refine wc_region ?_
  refine reg_quiet rfl (step_C tab_ok (fun K hk => hk)) ?_
  refine reg_nil ?_
  refine seq_n ?_
  refine wc_block ?_
  obtain ⟨l, hl⟩ : ∃ l, ofL L = l := ⟨_, rfl⟩
  rw [hl] at hlen12 ⊢
  obtain ⟨F, hF⟩ : ∃ F, fill0 l = F := ⟨_, rfl⟩
  have hFlen : F.length = l.length := by rw [← hF, fill0_len]
  have hcalm : Calm F := by rw [← hF]; exact fill0_calm l
  refine wc_inv (fun i : Nat => ⟨[(7, .int .i64 i), (6, .int .i64 (cntE F i : Nat)), (5, .own 64 0 l.length 40 none), (1, .d (u8c hand))], [(64, some (.ds 39 40 false encFrame (mix0 l i)))], 72, Try.f4.ntmps, 64⟩) (fun i => i ≤ l.length) (fun i => l.length - i) 0 [(64, some 88)] (Nat.zero_le _)
    (.of rfl rfl rfl rfl rfl ⟨⟨_, rfl, .refl _⟩, rfl, ⟨_, rfl, .refl _⟩, rfl, ⟨_, rfl, .refl _⟩, rfl, ⟨_, rfl, .refl _⟩, rfl, trivial⟩ ⟨⟨rfl, rfl, _, rfl, .of_eq (by rw [mix0_zero]; rfl)⟩, trivial⟩) ?_
  intro i hi
  have ho := cntE_le F i
  refine wc_of ?_
  refine wc_seq ?_
  refine wc_seq ?_
  refine wc_region ?_
  refine reg_quiet rfl (step_C tab_ok (fun K hk => hk)) ?_
  refine reg_quiet rfl (step_C tab_ok (fun K hk => hk)) ?_
  refine reg_quiet rfl (len_own tab_ok rfl rfl) ?_
  refine reg_quiet rfl (step_C tab_ok (fun K hk => hk)) ?_
  refine reg_nil ?_
  refine seq_n ?_
  refine wc_cond rfl (fun hb1 => ?_) (fun hb1 => ?_)
  · have hlt : i < l.length := by have := of_decide_eq_true hb1; omega
    obtain ⟨f, hf0⟩ : ∃ f, l[i]? = some f := ⟨_, List.getElem?_eq_getElem hlt⟩
    have hf' : (mix0 l i)[((i : Int)).toNat]? = some f := by rw [Int.toNat_natCast]; exact mix0_get hf0
    have hFi := fill0_get hf0
    rw [hF] at hFi
    have hset := mix0_set hf0
    refine wc_skip ?_
    refine seq_n ?_
    refine wc_seq ?_
    refine wc_block ?_
    refine wc_seq ?_
    refine wc_seq ?_
    refine wc_region ?_
    refine reg_quiet rfl (step_C tab_ok (fun K hk => hk)) ?_
    refine reg_quiet rfl (step_C tab_ok (fun K hk => hk)) ?_
    refine reg_quiet rfl (index_own tab_ok rfl rfl rfl rfl rfl (by omega) (by omega)) ?_
    refine reg_quiet rfl (step_C tab_ok (fun K hk => hk)) ?_
    refine reg_quiet rfl (load_row (v := .d (bo f.used)) tab_ok rfl rfl ⟨rfl, f, hf', bo f.used, rfl, rfl⟩ rfl) ?_
    refine reg_quiet rfl (step_C tab_ok (fun K hk => hk)) ?_
    refine reg_nil ?_
    refine seq_n ?_
    refine wc_cond rfl (fun hu => ?_) (fun hu => ?_)
    · have hu' : f.used = false := by simpa using hu
      obtain ⟨g, hg⟩ : ∃ g, oneF 1 i = g := ⟨_, rfl⟩
      rw [fillF0, fillF, if_neg (by simp [hu']), hg] at hset hFi
      have hg' : ((mix0 l i).set ((i : Int)).toNat (oneF 1 i))[((i : Int)).toNat]? = some g := by
        rw [Int.toNat_natCast, hg, List.getElem?_set, if_pos rfl, if_pos (by rw [mix0_len hi]; exact hlt)]
      obtain ⟨fp, hfp⟩ : ∃ fp, ({ g with ref := false } : Frame) = fp := ⟨_, rfl⟩
      have hfp' : (((mix0 l i).set ((i : Int)).toNat (oneF 1 i)).set ((i : Int)).toNat { g with ref := false })[((i : Int)).toNat]? = some fp := by
        rw [Int.toNat_natCast, hfp, List.getElem?_set, if_pos rfl, if_pos (by rw [List.length_set, mix0_len hi]; exact hlt)]
      have hrow : ((mix0 l i).set ((i : Int)).toNat (oneF 1 i)).set ((i : Int)).toNat { g with ref := false } = mix0 l (i + 1) := by
        rw [Int.toNat_natCast, List.set_set, hset]
      rw [hfp] at hFi
      have hcnt : ((cntE F i : Nat) : Int) + (if evB fp = true then (1 : Int) else 0) = ((cntE F (i + 1) : Nat) : Int) := by
        simp only [cntE, hFi]; split <;> simp
      have hev := evI_bound fp
      refine wc_region ?_
      refine reg_quiet rfl (step_C tab_ok (fun K hk => hk)) ?_
      refine reg_quiet rfl (step_C tab_ok (fun K hk => hk)) ?_
      refine reg_quiet rfl (step_C tab_ok (fun K hk => hk)) ?_
      refine reg_quiet rfl (call_r (one_is _ _) rfl rfl (arg_e (arg_e arg_nil)) (.inl rfl) (fun _ => rfl)) ?_
      refine reg_quiet rfl (index_own tab_ok rfl rfl rfl rfl rfl (by omega) (by omega)) ?_
      refine reg_store (store_row tab_ok rfl rfl rfl ⟨rfl, f, oneF 1 i, by assumption, ⟨rfl, rfl, rfl⟩, rfl⟩ rfl) ?_
      refine reg_nil ?_
      refine seq_n ?_
      refine wc_seq ?_
      refine wc_region ?_
      refine reg_quiet rfl (step_C tab_ok (fun K hk => hk)) ?_
      refine reg_quiet rfl (step_C tab_ok (fun K hk => hk)) ?_
      refine reg_quiet rfl (index_own tab_ok rfl rfl rfl rfl rfl (by omega) (by omega)) ?_
      refine reg_quiet rfl (step_C tab_ok (fun K hk => hk)) ?_
      refine reg_store (store_row tab_ok rfl rfl rfl ⟨rfl, g, { g with ref := false }, hg', ⟨_, ⟨rfl, rfl, rfl⟩, rfl⟩, rfl⟩ rfl) ?_
      refine reg_nil ?_
      refine seq_n ?_
      refine wc_region ?_
      refine reg_quiet rfl (step_C tab_ok (fun K hk => hk)) ?_
      refine reg_quiet rfl (step_C tab_ok (fun K hk => hk)) ?_
      refine reg_quiet rfl (step_C tab_ok (fun K hk => hk)) ?_
      refine reg_quiet rfl (index_own tab_ok rfl rfl rfl rfl rfl (by omega) (by omega)) ?_
      refine reg_quiet rfl (load_row (v := .d (encFrame fp)) tab_ok rfl rfl ⟨rfl, fp, hfp', encFrame fp, rfl, rfl⟩ rfl) ?_
      refine reg_quiet rfl (call_r (ev_is _) rfl rfl (arg_e arg_nil) (.inl rfl) (fun _ => rfl)) ?_
      refine reg_quiet rfl (add_int tab_ok rfl rfl (wrap_i64 (by omega) (by omega))) ?_
      refine reg_quiet rfl (step_C tab_ok (fun K hk => hk)) ?_
      refine reg_nil ?_
      refine blk_n ?_
      refine seq_n ?_
      refine wc_region ?_
      refine reg_quiet rfl (step_C tab_ok (fun K hk => hk)) ?_
      refine reg_quiet rfl (add_int tab_ok rfl rfl (wrap_i64 (by omega) (by omega))) ?_
      refine reg_quiet rfl (step_C tab_ok (fun K hk => hk)) ?_
      refine reg_nil ?_
      refine loop_n (i + 1) [] hlt (by omega) ?_
      exact .of rfl rfl rfl rfl rfl ⟨⟨_, rfl, .refl _⟩, rfl, ⟨_, rfl, .of_eq (by rw [hcnt]; rfl)⟩, rfl, ⟨_, rfl, .refl _⟩, rfl, ⟨_, rfl, .refl _⟩, rfl, trivial⟩ ⟨⟨rfl, rfl, _, rfl, .of_eq (by rw [hrow]; rfl)⟩, trivial⟩
    · have hu' : f.used = true := by simpa using hu
      obtain ⟨g, hg⟩ : ∃ g, f = g := ⟨_, rfl⟩
      rw [fillF0, fillF, if_pos hu', hg] at hset hFi
      have hg' : (mix0 l i)[((i : Int)).toNat]? = some g := by rw [← hg]; exact hf'
      obtain ⟨fp, hfp⟩ : ∃ fp, ({ g with ref := false } : Frame) = fp := ⟨_, rfl⟩
      have hfp' : ((mix0 l i).set ((i : Int)).toNat { g with ref := false })[((i : Int)).toNat]? = some fp := by
        rw [Int.toNat_natCast, hfp, List.getElem?_set, if_pos rfl, if_pos (by rw [mix0_len hi]; exact hlt)]
      have hrow : (mix0 l i).set ((i : Int)).toNat { g with ref := false } = mix0 l (i + 1) := by
        rw [Int.toNat_natCast, hset]
      rw [hfp] at hFi
      have hcnt : ((cntE F i : Nat) : Int) + (if evB fp = true then (1 : Int) else 0) = ((cntE F (i + 1) : Nat) : Int) := by
        simp only [cntE, hFi]; split <;> simp
      have hev := evI_bound fp
      refine wc_skip ?_
      refine seq_n ?_
      refine wc_seq ?_
      refine wc_region ?_
      refine reg_quiet rfl (step_C tab_ok (fun K hk => hk)) ?_
      refine reg_quiet rfl (step_C tab_ok (fun K hk => hk)) ?_
      refine reg_quiet rfl (index_own tab_ok rfl rfl rfl rfl rfl (by omega) (by omega)) ?_
      refine reg_quiet rfl (step_C tab_ok (fun K hk => hk)) ?_
      refine reg_store (store_row tab_ok rfl rfl rfl ⟨rfl, g, { g with ref := false }, hg', ⟨_, ⟨rfl, rfl, rfl⟩, rfl⟩, rfl⟩ rfl) ?_
      refine reg_nil ?_
      refine seq_n ?_
      refine wc_region ?_
      refine reg_quiet rfl (step_C tab_ok (fun K hk => hk)) ?_
      refine reg_quiet rfl (step_C tab_ok (fun K hk => hk)) ?_
      refine reg_quiet rfl (step_C tab_ok (fun K hk => hk)) ?_
      refine reg_quiet rfl (index_own tab_ok rfl rfl rfl rfl rfl (by omega) (by omega)) ?_
      refine reg_quiet rfl (load_row (v := .d (encFrame fp)) tab_ok rfl rfl ⟨rfl, fp, hfp', encFrame fp, rfl, rfl⟩ rfl) ?_
      refine reg_quiet rfl (call_r (ev_is _) rfl rfl (arg_e arg_nil) (.inl rfl) (fun _ => rfl)) ?_
      refine reg_quiet rfl (add_int tab_ok rfl rfl (wrap_i64 (by omega) (by omega))) ?_
      refine reg_quiet rfl (step_C tab_ok (fun K hk => hk)) ?_
      refine reg_nil ?_
      refine blk_n ?_
      refine seq_n ?_
      refine wc_region ?_
      refine reg_quiet rfl (step_C tab_ok (fun K hk => hk)) ?_
      refine reg_quiet rfl (add_int tab_ok rfl rfl (wrap_i64 (by omega) (by omega))) ?_
      refine reg_quiet rfl (step_C tab_ok (fun K hk => hk)) ?_
      refine reg_nil ?_
      refine loop_n (i + 1) [] hlt (by omega) ?_
      exact .of rfl rfl rfl rfl rfl ⟨⟨_, rfl, .refl _⟩, rfl, ⟨_, rfl, .of_eq (by rw [hcnt]; rfl)⟩, rfl, ⟨_, rfl, .refl _⟩, rfl, ⟨_, rfl, .refl _⟩, rfl, trivial⟩ ⟨⟨rfl, rfl, _, rfl, .of_eq (by rw [hrow]; rfl)⟩, trivial⟩
  · have he : i = l.length := by have := of_decide_eq_false hb1; omega
    subst he
    refine wc_exit ?_
    refine seq_x ?_
    refine loop_x ?_
    refine blk_x ?_
    refine seq_n ?_
    refine wc_seq ?_
    refine wc_seq ?_
    refine wc_region ?_
    refine reg_quiet rfl (step_C tab_ok (fun K hk => hk)) ?_
    refine reg_quiet rfl (step_C tab_ok (fun K hk => hk)) ?_
    refine reg_nil ?_
    refine seq_n ?_
    refine wc_cond rfl (fun hq => ?_) (fun hq => ?_)
    · refine wc_seq ?_
      refine wc_region ?_
      refine reg_quiet rfl (call_r lives_is rfl rfl arg_nil (.inl rfl) (fun _ => rfl)) ?_
      refine reg_quiet rfl (step_C tab_ok (fun K hk => hk)) ?_
      refine reg_nil ?_
      refine seq_n ?_
      refine wc_ret ?_
      refine seq_r ?_
      exact ⟨trivial, [], .of rfl rfl rfl rfl rfl ⟨⟨_, rfl, AVLe.of_eq rfl⟩, rfl, trivial⟩ trivial⟩
    · have hn0 : cntE F l.length ≠ 0 := by have := of_decide_eq_false hq; omega
      have hlpos : 0 < l.length := by
        rcases Nat.eq_zero_or_pos l.length with h | h
        · rw [h] at hn0; exact absurd rfl hn0
        · exact h
      obtain ⟨hN, hhN⟩ : ∃ k : Nat, hand.tmod (l.length : Int) = (k : Int) := ⟨(hand.tmod (l.length : Int)).toNat, by have := Int.tmod_nonneg (l.length : Int) hh.1; omega⟩
      have hNl : hN < l.length := by have := Int.tmod_lt_of_pos hand (show (0 : Int) < (l.length : Int) by omega); omega
      refine wc_skip ?_
      refine seq_n ?_
      refine wc_seq ?_
      refine wc_region ?_
      refine reg_quiet rfl (step_C tab_ok (fun K hk => hk)) ?_
      refine reg_quiet rfl (conv_int tab_ok rfl rfl rfl (wrap_i64 (by omega) (by omega))) ?_
      refine reg_quiet rfl (step_C tab_ok (fun K hk => hk)) ?_
      refine reg_quiet rfl (len_own tab_ok rfl rfl) ?_
      refine reg_quiet rfl (rem_int tab_ok rfl rfl (by omega)) ?_
      refine reg_quiet rfl (step_C tab_ok (fun K hk => hk)) ?_
      refine reg_nil ?_
      refine seq_n ?_
      refine wc_seq ?_
      refine wc_region ?_
      refine reg_quiet rfl (step_C tab_ok (fun K hk => hk)) ?_
      refine reg_nil ?_
      refine seq_n ?_
      refine wc_seq ?_
      refine wc_seq ?_
      refine wc_region ?_
      refine reg_quiet rfl (step_C tab_ok (fun K hk => hk)) ?_
      refine reg_nil ?_
      refine seq_n ?_
      refine wc_block ?_
      have hfull := mix0_full l
      rw [hF] at hfull
      have hmod : hN % F.length = hN := Nat.mod_eq_of_lt (by omega)
      have hPl := P_len F hN
      rw [hFlen] at hPl
      refine wc_inv (fun k : Nat => ⟨[(10, .int .i64 k), (9, .own 65 0 (seenK F hN k).length 1 none), (8, .int .i64 (curK F hN k % F.length : Nat)), (6, .int .i64 (cntE F l.length : Nat)), (5, .own 64 0 l.length 40 none)], [(64, some (.ds 39 40 false encFrame F)), (65, some (.ds 3 1 false i6 (seenK F hN k)))], 72, Try.f4.ntmps, 64⟩)
        (fun k => k ≤ 2 * cntE F l.length ∧ At F hN k (curK F hN k)) (fun k => 2 * cntE F l.length - k) 0 [(65, none)] ⟨Nat.zero_le _, at_zero F hN⟩
        (.of rfl rfl rfl rfl rfl ⟨⟨_, rfl, .refl _⟩, rfl, ⟨_, rfl, .refl _⟩, rfl, ⟨_, rfl, .of_eq (by rw [hhN, curK, hmod]; rfl)⟩, rfl, ⟨_, rfl, .refl _⟩, rfl, ⟨_, rfl, .refl _⟩, rfl, trivial⟩ ⟨⟨rfl, rfl, _, rfl, .of_eq (by rw [hfull]; rfl)⟩, ⟨rfl, rfl, rfl⟩, trivial⟩) ?_
      rintro k ⟨hk2, hat⟩
      refine wc_of ?_
      refine wc_seq ?_
      refine wc_seq ?_
      refine wc_region ?_
      refine reg_quiet rfl (step_C tab_ok (fun K hk => hk)) ?_
      refine reg_quiet rfl (step_C tab_ok (fun K hk => hk)) ?_
      refine reg_quiet rfl (mul_int tab_ok rfl rfl (wrap_i64 (by omega) (by omega))) ?_
      refine reg_quiet rfl (step_C tab_ok (fun K hk => hk)) ?_
      refine reg_nil ?_
      refine seq_n ?_
      refine wc_cond rfl (fun hb2 => ?_) (fun hb2 => ?_)
      · have hklt : k < 2 * cntE F l.length := by have := of_decide_eq_true hb2; omega
        obtain ⟨p, hp, hcp, hpe, hno, hat2⟩ := at_next hat (by rw [hFlen, hPl]; exact hklt)
        obtain ⟨v1, v2, v3⟩ := calm_victim hcalm hcp hpe hno (by omega)
        have hpl : p % F.length < l.length := by have := Nat.mod_lt p (show 0 < F.length by omega); omega
        have hpl2 : (p + 1) % F.length < l.length := by have := Nat.mod_lt (p + 1) (show 0 < F.length by omega); omega
        have hcl : curK F hN k % F.length < F.length := Nat.mod_lt _ (by omega)
        obtain ⟨fp, hfp0, hfpe⟩ : ∃ fp, F[p % F.length]? = some fp ∧ evB fp = true := by
          simp only [evAt] at hpe
          cases hx : F[p % F.length]? with
          | none => rw [hx] at hpe; cases hpe
          | some f => rw [hx] at hpe; exact ⟨f, rfl, hpe⟩
        have hfp' : F[((p % F.length : Nat) : Int).toNat]? = some fp := by rw [Int.toNat_natCast]; exact hfp0
        have hV := victim_ok F (curK F hN k % F.length) (by omega) hcl (any_hit hfp0 (by simp [hfpe]))
        rw [v1, v2, v3] at hV
        have hcur : curK F hN (k + 1) = p + 1 := by simp only [curK, hp, Option.getD_some]
        have hFl : l.length = F.length := hFlen.symm
        have g1 : decide (((p % F.length : Nat) : Int) < 0) = false := decide_eq_false (by omega)
        have g2 : decide (((p % F.length : Nat) : Int) ≥ (l.length : Int)) = false := decide_eq_false (by omega)
        have g3 : decide ((((p + 1) % F.length : Nat) : Int) < 0) = false := decide_eq_false (by omega)
        have g4 : decide ((((p + 1) % F.length : Nat) : Int) ≥ (l.length : Int)) = false := decide_eq_false (by omega)
        have g5 : (!decide ((F.length : Int) = (l.length : Int))) = false := by rw [hFlen]; simp
        have g6 : decide ((if evB fp = true then (1 : Int) else 0) = 0) = false := by rw [hfpe]; rfl
        refine wc_skip ?_
        refine seq_n ?_
        refine wc_seq ?_
        refine wc_block ?_
        refine wc_seq ?_
        refine wc_region ?_
        refine reg_quiet rfl (step_C tab_ok (fun K hk => hk)) ?_
        refine reg_quiet rfl (step_C tab_ok (fun K hk => hk)) ?_
        refine reg_new (call_new hV rfl rfl (arg_ownL rfl hFl (arg_e arg_nil)) (.inr (victim_plain _ _ _ _ _ _)) rfl rfl) rfl ?_
        refine reg_quiet rfl (step_C tab_ok (fun K hk => hk)) ?_
        refine reg_quiet rfl (step_C tab_ok (fun K hk => hk)) ?_
        refine reg_quiet rfl (step_C tab_ok (fun K hk => hk)) ?_
        refine reg_quiet rfl (step_C tab_ok (fun K hk => hk)) ?_
        refine reg_quiet rfl (step_C tab_ok (fun K hk => hk)) ?_
        refine reg_quiet rfl (step_C tab_ok (fun K hk => hk)) ?_
        refine reg_quiet rfl (step_C tab_ok (fun K hk => hk)) ?_
        refine reg_quiet rfl (step_C tab_ok (fun K hk => hk)) ?_
        refine reg_quiet rfl (step_C tab_ok (fun K hk => hk)) ?_
        refine reg_nil ?_
        refine seq_n ?_
        refine wc_seq ?_
        refine wc_seq ?_
        refine wc_region ?_
        refine reg_quiet rfl (step_C tab_ok (fun K hk => hk)) ?_
        refine reg_quiet rfl (step_C tab_ok (fun K hk => hk)) ?_
        refine reg_quiet rfl (step_C tab_ok (fun K hk => hk)) ?_
        refine reg_on rfl rfl rfl ?_
        refine reg_quiet rfl (step_C tab_ok (fun K hk => hk)) ?_
        refine reg_on rfl rfl rfl ?_
        refine reg_quiet rfl (step_C tab_ok (fun K hk => hk)) ?_
        refine reg_quiet rfl (pick_F tab_ok rfl rfl rfl) ?_
        refine reg_quiet rfl (step_C tab_ok (fun K hk => hk)) ?_
        refine reg_on rfl rfl rfl ?_
        refine reg_quiet rfl (step_C tab_ok (fun K hk => hk)) ?_
        refine reg_on rfl rfl rfl ?_
        refine reg_quiet rfl (step_C tab_ok (fun K hk => hk)) ?_
        refine reg_on rfl rfl rfl ?_
        refine reg_quiet rfl (len_own tab_ok rfl rfl) ?_
        refine reg_on rfl rfl rfl ?_
        refine reg_quiet rfl (step_C tab_ok (fun K hk => hk)) ?_
        refine reg_quiet rfl (pick_F tab_ok rfl rfl rfl) ?_
        refine reg_quiet rfl (step_C tab_ok (fun K hk => hk)) ?_
        refine reg_on rfl rfl (by assumption) ?_
        refine reg_quiet rfl (step_C tab_ok (fun K hk => hk)) ?_
        refine reg_on rfl rfl (by assumption) ?_
        refine reg_quiet rfl (step_C tab_ok (fun K hk => hk)) ?_
        refine reg_quiet rfl (pick_F tab_ok rfl (by assumption) rfl) ?_
        refine reg_quiet rfl (step_C tab_ok (fun K hk => hk)) ?_
        refine reg_on rfl rfl rfl ?_
        refine reg_quiet rfl (step_C tab_ok (fun K hk => hk)) ?_
        refine reg_on rfl rfl rfl ?_
        refine reg_quiet rfl (step_C tab_ok (fun K hk => hk)) ?_
        refine reg_on rfl rfl rfl ?_
        refine reg_quiet rfl (len_own tab_ok rfl rfl) ?_
        refine reg_on rfl rfl rfl ?_
        refine reg_quiet rfl (step_C tab_ok (fun K hk => hk)) ?_
        refine reg_quiet rfl (pick_F tab_ok rfl rfl rfl) ?_
        refine reg_quiet rfl (step_C tab_ok (fun K hk => hk)) ?_
        refine reg_on rfl rfl (by assumption) ?_
        refine reg_quiet rfl (step_C tab_ok (fun K hk => hk)) ?_
        refine reg_on rfl rfl (by assumption) ?_
        refine reg_quiet rfl (len_own tab_ok rfl rfl) ?_
        refine reg_on rfl rfl (by assumption) ?_
        refine reg_quiet rfl (step_C tab_ok (fun K hk => hk)) ?_
        refine reg_on rfl rfl (by assumption) ?_
        refine reg_quiet rfl (len_own tab_ok rfl rfl) ?_
        refine reg_on rfl rfl (by assumption) ?_
        refine reg_quiet rfl (step_C tab_ok (fun K hk => hk)) ?_
        refine reg_quiet rfl (pick_F tab_ok rfl (by assumption) rfl) ?_
        refine reg_quiet rfl (step_C tab_ok (fun K hk => hk)) ?_
        refine reg_on rfl rfl (by assumption) ?_
        refine reg_quiet rfl (step_C tab_ok (fun K hk => hk)) ?_
        refine reg_on rfl rfl (by assumption) ?_
        refine reg_quiet rfl (step_C tab_ok (fun K hk => hk)) ?_
        refine reg_on rfl rfl (by assumption) ?_
        refine reg_quiet rfl (index_own tab_ok rfl rfl rfl rfl rfl (by omega) (by omega)) ?_
        refine reg_on rfl rfl (by assumption) ?_
        refine reg_quiet rfl (load_row (v := .d (encFrame fp)) tab_ok rfl rfl ⟨rfl, fp, hfp', encFrame fp, rfl, rfl⟩ rfl) ?_
        refine reg_on rfl rfl (by assumption) ?_
        refine reg_quiet rfl (call_r (ev_is _) rfl rfl (arg_e arg_nil) (.inl rfl) (fun _ => rfl)) ?_
        refine reg_on rfl rfl (by assumption) ?_
        refine reg_quiet rfl (step_C tab_ok (fun K hk => hk)) ?_
        refine reg_quiet rfl (pick_F tab_ok rfl (by assumption) rfl) ?_
        refine reg_nil ?_
        refine seq_n ?_
        refine wc_false rfl (by assumption) ?_
        refine wc_skip ?_
        refine seq_n ?_
        refine wc_seq ?_
        refine wc_seq ?_
        refine wc_region ?_
        refine reg_quiet rfl (step_C tab_ok (fun K hk => hk)) ?_
        refine reg_quiet rfl (step_C tab_ok (fun K hk => hk)) ?_
        refine reg_quiet rfl (step_C tab_ok (fun K hk => hk)) ?_
        refine reg_nil ?_
        refine seq_n ?_
        refine wc_cond rfl (fun hb3 => ?_) (fun hb3 => ?_)
        · have hkn : k < cntE F l.length := by have := of_decide_eq_true hb3; omega
          have hsl : (seenK F hN k).length = k := seenK_len (by rw [hFlen]; omega)
          have hlen3 : (seenK F hN k).length + 1 ≤ 1048576 := by omega
          have hmore := seen_more (by rw [hFlen]; exact hkn) hp
          have hmorel : (seenK F hN (k + 1)).length = (seenK F hN k).length + 1 := by rw [hmore, List.length_append (bs := [_])]; rfl
          refine wc_seq ?_
          refine wc_seq ?_
          refine wc_region ?_
          refine reg_quiet rfl (step_C tab_ok (fun K hk => hk)) ?_
          refine reg_nil ?_
          refine seq_n ?_
          refine wc_block ?_
          refine wc_inv (fun i : Nat => ⟨[(15, .int .i64 i), (13, .int .i64 ((p + 1) % F.length : Nat)), (12, .own 66 0 F.length 40 none), (11, .int .i64 (p % F.length : Nat)), (10, .int .i64 k), (9, .own 65 0 (seenK F hN k).length 1 none), (6, .int .i64 (cntE F l.length : Nat))], [(65, some (.ds 3 1 false i6 (seenK F hN k))), (66, some (.ds 39 40 true encFrame F))], 72, Try.f4.ntmps, 64⟩)
            (fun i => i ≤ k) (fun i => k - i) 0 [(66, some 120)] (Nat.zero_le _)
            (.of rfl rfl rfl rfl rfl ⟨⟨_, rfl, .refl _⟩, rfl, ⟨_, rfl, .refl _⟩, rfl, ⟨_, rfl, .refl _⟩, rfl, ⟨_, rfl, .refl _⟩, rfl, ⟨_, rfl, .refl _⟩, rfl, ⟨_, rfl, .refl _⟩, rfl, ⟨_, rfl, .refl _⟩, rfl, trivial⟩ ⟨⟨rfl, rfl, _, rfl, .refl _⟩, ⟨rfl, rfl, _, rfl, .refl _⟩, trivial⟩) ?_
          intro i hik
          refine wc_of ?_
          refine wc_seq ?_
          refine wc_seq ?_
          refine wc_region ?_
          refine reg_quiet rfl (step_C tab_ok (fun K hk => hk)) ?_
          refine reg_quiet rfl (step_C tab_ok (fun K hk => hk)) ?_
          refine reg_quiet rfl (len_own tab_ok rfl rfl) ?_
          refine reg_quiet rfl (step_C tab_ok (fun K hk => hk)) ?_
          refine reg_nil ?_
          refine seq_n ?_
          refine wc_cond rfl (fun hb4 => ?_) (fun hb4 => ?_)
          · have hik2 : i < k := by have := of_decide_eq_true hb4; omega
            obtain ⟨v, hv, hvn⟩ := seen_new (by rw [hFlen]; exact hkn) hik2 hp
            have hv' : (seenK F hN k)[((i : Int)).toNat]? = some v := by rw [Int.toNat_natCast]; exact hv
            have hvd : decide (v = ((p % F.length : Nat) : Int)) = false := decide_eq_false hvn
            refine wc_skip ?_
            refine seq_n ?_
            refine wc_seq ?_
            refine wc_block ?_
            refine wc_seq ?_
            refine wc_region ?_
            refine reg_quiet rfl (step_C tab_ok (fun K hk => hk)) ?_
            refine reg_quiet rfl (step_C tab_ok (fun K hk => hk)) ?_
            refine reg_quiet rfl (index_own tab_ok rfl rfl rfl rfl rfl (by omega) (by omega)) ?_
            refine reg_quiet rfl (load_row tab_ok rfl rfl ⟨rfl, _, by assumption, _, rfl, rfl⟩ rfl) ?_
            refine reg_quiet rfl (step_C tab_ok (fun K hk => hk)) ?_
            refine reg_quiet rfl (step_C tab_ok (fun K hk => hk)) ?_
            refine reg_nil ?_
            refine seq_n ?_
            refine wc_false rfl (by assumption) ?_
            refine wc_skip ?_
            refine blk_n ?_
            refine seq_n ?_
            refine wc_region ?_
            refine reg_quiet rfl (step_C tab_ok (fun K hk => hk)) ?_
            refine reg_quiet rfl (add_int tab_ok rfl rfl (wrap_i64 (by omega) (by omega))) ?_
            refine reg_quiet rfl (step_C tab_ok (fun K hk => hk)) ?_
            refine reg_nil ?_
            refine loop_n (i + 1) [] hik2 (by omega) ?_
            exact .of rfl rfl rfl rfl rfl ⟨⟨_, rfl, .refl _⟩, rfl, ⟨_, rfl, .refl _⟩, rfl, ⟨_, rfl, .refl _⟩, rfl, ⟨_, rfl, .refl _⟩, rfl, ⟨_, rfl, .refl _⟩, rfl, ⟨_, rfl, .refl _⟩, rfl, ⟨_, rfl, .refl _⟩, rfl, trivial⟩ ⟨⟨rfl, rfl, _, rfl, .refl _⟩, ⟨rfl, rfl, _, rfl, .refl _⟩, trivial⟩
          · refine wc_exit ?_
            refine seq_x ?_
            refine loop_x ?_
            refine blk_x ?_
            refine seq_n ?_
            refine wc_region ?_
            refine reg_quiet rfl (step_C tab_ok (fun K hk => hk)) ?_
            refine reg_quiet rfl (step_C tab_ok (fun K hk => hk)) ?_
            refine reg_new (build_slice tab_ok rfl rfl rfl rfl rfl rfl rfl rfl) rfl ?_
            refine reg_new2 (append_one (s := 1) (enc := i6) tab_ok ((p % F.length : Nat) : Int) rfl rfl rfl rfl rfl rfl rfl rfl rfl hlen3 rfl) rfl ?_
            refine reg_quiet rfl (step_C tab_ok (fun K hk => hk)) ?_
            refine reg_nil ?_
            refine seq_n ?_
            refine wc_region ?_
            refine reg_quiet rfl (step_C tab_ok (fun K hk => hk)) ?_
            refine reg_quiet rfl (step_C tab_ok (fun K hk => hk)) ?_
            refine reg_quiet rfl (step_C tab_ok (fun K hk => hk)) ?_
            refine reg_quiet rfl (step_C tab_ok (fun K hk => hk)) ?_
            refine reg_nil ?_
            refine blk_n ?_
            refine seq_n ?_
            refine wc_region ?_
            refine reg_quiet rfl (step_C tab_ok (fun K hk => hk)) ?_
            refine reg_quiet rfl (add_int tab_ok rfl rfl (wrap_i64 (by omega) (by omega))) ?_
            refine reg_quiet rfl (step_C tab_ok (fun K hk => hk)) ?_
            refine reg_nil ?_
            refine loop_n (k + 1) [(64, some 66), (65, some 128)] ⟨hklt, by rw [hcur]; exact hat2⟩ (by omega) ?_
            exact .of rfl rfl rfl rfl rfl ⟨⟨_, rfl, .refl _⟩, rfl, ⟨_, rfl, .of_eq (by rw [hmorel]; rfl)⟩, rfl, ⟨_, rfl, .of_eq (by rw [hcur]; rfl)⟩, rfl, ⟨_, rfl, .refl _⟩, rfl, ⟨_, rfl, .of_eq (by rw [hFlen]; rfl)⟩, rfl, trivial⟩ ⟨⟨rfl, rfl, _, rfl, RowLe.unexact⟩, ⟨rfl, rfl, _, rfl, .of_eq (by rw [hmore]; rfl)⟩, trivial⟩
        · have hkn : cntE F l.length ≤ k := by have := of_decide_eq_false hb3; omega
          have hso := seen_old (by rw [hFlen]; exact hkn) (by rw [hFlen]; exact hklt) hp
          have hsl : (seenK F hN k).length = cntE F l.length := by rw [seenK, List.length_map, List.length_take, P_len, hFlen]; omega
          have hso' : (seenK F hN k)[((k : Int) - ((cntE F l.length : Nat) : Int)).toNat]? = some ((p % F.length : Nat) : Int) := by
            rw [show ((k : Int) - ((cntE F l.length : Nat) : Int)).toNat = k - cntE F F.length by rw [hFlen]; omega]; exact hso
          have hsd : (!decide (((p % F.length : Nat) : Int) = ((p % F.length : Nat) : Int))) = false := by simp
          have hsame := seen_same (F := F) (h := hN) (k := k) (by rw [hFlen]; exact hkn)
          refine wc_seq ?_
          refine wc_region ?_
          refine reg_quiet rfl (step_C tab_ok (fun K hk => hk)) ?_
          refine reg_quiet rfl (step_C tab_ok (fun K hk => hk)) ?_
          refine reg_quiet rfl (step_C tab_ok (fun K hk => hk)) ?_
          refine reg_quiet rfl (sub_int tab_ok rfl rfl (wrap_i64 (by omega) (by omega))) ?_
          refine reg_quiet rfl (index_own tab_ok rfl rfl rfl rfl rfl (by omega) (by omega)) ?_
          refine reg_quiet rfl (load_row tab_ok rfl rfl ⟨rfl, _, by assumption, _, rfl, rfl⟩ rfl) ?_
          refine reg_quiet rfl (step_C tab_ok (fun K hk => hk)) ?_
          refine reg_quiet rfl (step_C tab_ok (fun K hk => hk)) ?_
          refine reg_nil ?_
          refine seq_n ?_
          refine wc_false rfl (by assumption) ?_
          refine wc_skip ?_
          refine seq_n ?_
          refine wc_region ?_
          refine reg_quiet rfl (step_C tab_ok (fun K hk => hk)) ?_
          refine reg_quiet rfl (step_C tab_ok (fun K hk => hk)) ?_
          refine reg_quiet rfl (step_C tab_ok (fun K hk => hk)) ?_
          refine reg_quiet rfl (step_C tab_ok (fun K hk => hk)) ?_
          refine reg_nil ?_
          refine blk_n ?_
          refine seq_n ?_
          refine wc_region ?_
          refine reg_quiet rfl (step_C tab_ok (fun K hk => hk)) ?_
          refine reg_quiet rfl (add_int tab_ok rfl rfl (wrap_i64 (by omega) (by omega))) ?_
          refine reg_quiet rfl (step_C tab_ok (fun K hk => hk)) ?_
          refine reg_nil ?_
          refine loop_n (k + 1) [(64, some 120)] ⟨hklt, by rw [hcur]; exact hat2⟩ (by omega) ?_
          exact .of rfl rfl rfl rfl rfl ⟨⟨_, rfl, .refl _⟩, rfl, ⟨_, rfl, .of_eq (by rw [hsame]; rfl)⟩, rfl, ⟨_, rfl, .of_eq (by rw [hcur]; rfl)⟩, rfl, ⟨_, rfl, .refl _⟩, rfl, ⟨_, rfl, .of_eq (by rw [hFlen]; rfl)⟩, rfl, trivial⟩ ⟨⟨rfl, rfl, _, rfl, RowLe.unexact⟩, ⟨rfl, rfl, _, rfl, .of_eq (by rw [hsame]; rfl)⟩, trivial⟩
      · refine wc_exit ?_
        refine seq_x ?_
        refine loop_x ?_
        refine blk_x ?_
        refine seq_n ?_
        refine wc_seq ?_
        refine wc_region ?_
        refine reg_quiet rfl (call_r lives_is rfl rfl arg_nil (.inl rfl) (fun _ => rfl)) ?_
        refine reg_quiet rfl (step_C tab_ok (fun K hk => hk)) ?_
        refine reg_nil ?_
        refine seq_n ?_
        refine wc_ret ?_
        exact ⟨trivial, [], .of rfl rfl rfl rfl rfl ⟨⟨_, rfl, AVLe.of_eq rfl⟩, rfl, trivial⟩ trivial⟩
end Go.Proofs.Ytmdfeekpehcieaa
