/- Texts of the proof: HR, H6, H7, H8, H9, H10, H11, H14, H15, H16, HT. -/
import Derived.Test.YtmojbghcngdkpaaGreatDoorG04

set_option linter.unusedVariables false
set_option linter.unusedSimpArgs false
set_option linter.unusedSectionVars false

namespace Go.Proofs.YtmojbghcngdkpaaGreatDoor
open Go.Eng Go.Plain
structure RdS where
  busy : List Int
  number : List Int
  era : Int
  read : Int
  all : List HOp
def zero8 : List Int := [0, 0, 0, 0, 0, 0, 0, 0]
def rd0 : RdS := ⟨zero8, zero8, 0, 0, []⟩
def kn4 (e : Int) : Bool := decide (e = 0) || decide (e = 1) || decide (e = 8) || decide (e = 9)
def inv1 (s : RdS) (x : HEv) : Bool := decide (0 ≤ x.client) && decide (x.client < 8) && decide (s.busy[x.client.toNat]? = some 0) && decide (x.op.data.length ≤ 64) && decide (x.value = zBk) && decide (x.err = 0)
def opOf (s : RdS) (x : HEv) : Option HOp := match s.busy[x.client.toNat]? with
  | some b => s.all[(b - 1).toNat]?
  | none => none
def ret1 (s : RdS) (x : HEv) : Bool := decide (0 ≤ x.client) && decide (x.client < 8) && !decide (s.busy[x.client.toNat]? = some 0) && decide (x.op = zOp) && kn4 x.err && (decide (x.value = zBk) || (match opOf s x with | some o => decide (o.op.kind = 1) && decide (x.err = 0) | none => false))
def crash1 (x : HEv) : Bool := decide (x.client = 0) && decide (x.op = zOp) && decide (x.value = zBk) && decide (x.err = 0)
def takeS (s : RdS) (x : HEv) : RdS × Bool :=
  let c := x.client.toNat
  if x.kind = 1 then
    if inv1 s x then (⟨s.busy.set c (s.all.length + 1), s.number.set c ((s.number[c]?.getD 0) + 1), s.era, s.read + 1, s.all ++ [⟨x.client, s.number[c]?.getD 0, s.era, x.op, s.read, -1, zBk, 0⟩]⟩, true)
    else ({ s with read := s.read + 1 }, false)
  else if x.kind = 2 then
    if ret1 s x then (⟨s.busy.set c 0, s.number, s.era, s.read + 1, match opOf s x with | some o => s.all.set ((s.busy[c]?.getD 0) - 1).toNat { o with returned := s.read, value := x.value, err := x.err } | none => s.all⟩, true)
    else ({ s with read := s.read + 1 }, false)
  else if x.kind = 3 then (⟨zero8, s.number, s.era + 1, s.read + 1, s.all⟩, crash1 x)
  else ({ s with read := s.read + 1 }, false)
structure RdS.Ok (s : RdS) (n : Nat) : Prop where
  blen : s.busy.length = 8
  nlen : s.number.length = 8
  busy : ∀ b ∈ s.busy, 0 ≤ b ∧ b ≤ s.all.length
  number : ∀ b ∈ s.number, 0 ≤ b ∧ b ≤ n
  era : 0 ≤ s.era ∧ s.era ≤ n
  read : s.read = n
  all : s.all.length ≤ n
theorem rd0_ok : rd0.Ok 0 := ⟨rfl, rfl, by decide, by decide, by decide, rfl, by decide⟩
theorem RdS.Ok.next {s : RdS} {n : Nat} (h : s.Ok n) (x : HEv) : (takeS s x).1.Ok (n + 1) := by
  have mset : ∀ {l : List Int} {c : Nat} {v b : Int}, b ∈ l.set c v → b = v ∨ b ∈ l := fun hb => by
    rcases List.mem_or_eq_of_mem_set hb with h | h
    · exact .inr h
    · exact .inl h
  have hnum : ∀ c : Nat, 0 ≤ s.number[c]?.getD 0 ∧ s.number[c]?.getD 0 ≤ n := fun c => by
    cases hc : s.number[c]? with
    | none => simp
    | some b => exact h.number b (List.mem_of_getElem? hc)
  have hbase : ({ s with read := s.read + 1 } : RdS).Ok (n + 1) := ⟨h.blen, h.nlen, h.busy, fun b hb => by have := h.number b hb; omega, by have := h.era; constructor <;> simp only <;> omega, by have := h.read; simp only; omega, by have := h.all; simp only; omega⟩
  have h1 := h.era
  have h2 := h.read
  have h3 := h.all
  unfold takeS
  simp only
  by_cases k1 : x.kind = 1
  · rw [if_pos k1]
    cases hi : inv1 s x with
    | false => simpa using hbase
    | true =>
      simp only [if_pos]
      refine ⟨by simp [h.blen], by simp [h.nlen], fun b hb => ?_, fun b hb => ?_, by constructor <;> simp only <;> omega, by simp only; omega, by simp; omega⟩
      · rcases mset hb with rfl | hb
        · constructor
          · omega
          · simp
        · have := h.busy b hb
          simp; omega
      · rcases mset hb with rfl | hb
        · have := hnum x.client.toNat
          omega
        · have := h.number b hb; omega
  · rw [if_neg k1]
    by_cases k2 : x.kind = 2
    · rw [if_pos k2]
      cases hi : ret1 s x with
      | false => simpa using hbase
      | true =>
        simp only [if_pos]
        have hl : (match opOf s x with | some o => s.all.set ((s.busy[x.client.toNat]?.getD 0) - 1).toNat { o with returned := s.read, value := x.value, err := x.err } | none => s.all).length = s.all.length := by
          cases opOf s x <;> simp
        refine ⟨by simp [h.blen], h.nlen, fun b hb => ?_, fun b hb => by have := h.number b hb; omega, by constructor <;> simp only <;> omega, by simp only; omega, by simp only [hl]; omega⟩
        simp only [hl]
        rcases mset hb with rfl | hb
        · omega
        · exact h.busy b hb
    · rw [if_neg k2]
      by_cases k3 : x.kind = 3
      · rw [if_pos k3]
        refine ⟨rfl, h.nlen, fun b hb => ?_, fun b hb => by have := h.number b hb; omega, by constructor <;> simp only <;> omega, by simp only; omega, by simp only; omega⟩
        have : b = 0 := by simpa [zero8] using hb
        simp only
        omega
      · rw [if_neg k3]; exact hbase
end Go.Proofs.YtmojbghcngdkpaaGreatDoor

namespace Go.Proofs.YtmojbghcngdkpaaGreatDoor
open Go.Eng Go.Plain
set_option maxHeartbeats 8000000
set_option maxRecDepth 20000
attribute [local irreducible] WC RegS RegD SeqQ BlkQ ScoQ RegK CutK Sat SatN FnIs LoopQ StepIs OpIs
abbrev rdRow (s : RdS) (r : Nat) : Row := .box 114 (.acons (.d (.vec 8 1 i6 s.busy)) (.acons (.d (.vec 8 1 i6 s.number)) (.acons (.d (i6 s.era)) (.acons (.d (i6 s.read)) (.acons (.own r 0 s.all.length 41 none) .anil)))))
abbrev opRow (l : List HOp) : Row := .ds 54 41 false encOpn l
abbrev TakeIs (s : RdS) (x : HEv) (s' : RdS) (b : Bool) : Prop := FnIs Tryz.prog 71 [.ptr 0 [], .d (encEv x)] [(0, rdRow s 1), (1, opRow s.all)] (.bool b) [(0, rdRow s' 64), (64, opRow s'.all)]
theorem take_other (s : RdS) (x : HEv) (n : Nat) (hs : s.Ok n) (hn : n ≤ 1000000) (k1 : x.kind ≠ 1) (k2 : x.kind ≠ 2) (k3 : x.kind ≠ 3) (c0 : Bool) (h0 : decide (0 ≤ x.client) = c0) : TakeIs s x { s with read := s.read + 1 } false := by
  have hr := hs.read
  have d1 : decide (x.kind = 1) = false := decide_eq_false k1
  have d2 : decide (x.kind = 2) = false := decide_eq_false k2
  have d3 : decide (x.kind = 3) = false := decide_eq_false k3
  have hw : IntKind.i64.wrap (s.read + 1) = s.read + 1 := wrap_i64 (by omega) (by omega)
  refine fnIs_of tab_ok Tryz.func71 rfl rfl rfl ?_
  cases c0 with
  | false =>
    refine sR ?_;refine rN ?_;refine rC ?_;refine nR ?_;iterate 3 refine rC ?_
    refine rQ iM ?_;refine rC ?_;refine nR ?_;iterate 3 refine rC ?_
    refine rQ iM ?_;refine rQ iD ?_;iterate 2 refine rC ?_
    refine reg_store (store_row tab_ok rfl rfl rfl ⟨_, ⟨_, ⟨rfl, rfl, rfl⟩, rfl⟩, rfl⟩ rfl) ?_;refine nR ?_;refine rC ?_;refine rQ iB ?_;iterate 2 refine rC ?_
    iterate 3 refine rS ?_
    refine rQ iF ?_;refine rC ?_;refine nR ?_;refine rC ?_;refine rQ iB ?_;refine rQ (build_array tab_ok rfl rfl rfl) ?_;refine rQ (eql_data rfl rfl rfl rfl (by kernel_rfl) (by decide) (block_eq x.value zBk)) ?_
    refine rC ?_;refine nQ ?_;refine wc_block ?_;refine sR ?_;refine rC ?_;refine rQ iB ?_;iterate 2 refine rC ?_
    refine nS ?_;refine wF ?_;refine sR ?_;refine rC ?_;refine rQ iB ?_;iterate 2 refine rC ?_
    refine nS ?_;refine wF ?_;refine sR ?_;refine rC ?_;refine rQ iB ?_;iterate 2 refine rC ?_
    refine nS ?_;refine wF ?_;refine sR ?_;refine rC ?_;refine nS ?_;refine wc_ret ?_;refine blk_r ?_;refine seq_r ?_
    exact ⟨trivial, [(64, some 1)], .of rfl rfl rfl rfl rfl ⟨⟨_, rfl, AVLe.of_eq rfl⟩, rfl, trivial⟩ ⟨⟨rfl, rfl, _, rfl, .refl _⟩, ⟨rfl, rfl, _, rfl, .refl _⟩, trivial⟩⟩
  | true =>
    refine sR ?_;refine rN ?_;refine rC ?_;refine nR ?_;iterate 3 refine rC ?_
    refine rQ iM ?_;refine rC ?_;refine nR ?_;iterate 3 refine rC ?_
    refine rQ iM ?_;refine rQ iD ?_;iterate 2 refine rC ?_
    refine reg_store (store_row tab_ok rfl rfl rfl ⟨_, ⟨_, ⟨rfl, rfl, rfl⟩, rfl⟩, rfl⟩ rfl) ?_;refine nR ?_;refine rC ?_;refine rQ iB ?_;iterate 2 refine rC ?_
    refine rO ?_;refine rC ?_;refine rO ?_;refine rQ iB ?_;refine rO ?_;refine rC ?_;refine rQ iT ?_;refine rC ?_;refine nR ?_;refine rC ?_;refine rQ iB ?_;refine rQ (build_array tab_ok rfl rfl rfl) ?_
    refine rQ (eql_data rfl rfl rfl rfl (by kernel_rfl) (by decide) (block_eq x.value zBk)) ?_;refine rC ?_;refine nQ ?_;refine wc_block ?_;refine sR ?_;refine rC ?_
    refine rQ iB ?_;iterate 2 refine rC ?_
    refine nS ?_;refine wF ?_;refine sR ?_;refine rC ?_;refine rQ iB ?_;iterate 2 refine rC ?_
    refine nS ?_;refine wF ?_;refine sR ?_;refine rC ?_;refine rQ iB ?_;iterate 2 refine rC ?_
    refine nS ?_;refine wF ?_;refine sR ?_;refine rC ?_;refine nS ?_;refine wc_ret ?_;refine blk_r ?_;refine seq_r ?_
    exact ⟨trivial, [(64, some 1)], .of rfl rfl rfl rfl rfl ⟨⟨_, rfl, AVLe.of_eq rfl⟩, rfl, trivial⟩ ⟨⟨rfl, rfl, _, rfl, .refl _⟩, ⟨rfl, rfl, _, rfl, .refl _⟩, trivial⟩⟩
theorem take_crash (s : RdS) (x : HEv) (n : Nat) (hs : s.Ok n) (hn : n ≤ 1000000) (k3 : x.kind = 3) (c0 c1 c2 c3 : Bool) (h0 : decide (0 ≤ x.client) = c0) (h1 : decide (x.client = 0) = c1) (h2 : decide (x.op = zOp) = c2) (h3 : decide (x.value = zBk) = c3) : TakeIs s x ⟨zero8, s.number, s.era + 1, s.read + 1, s.all⟩ (c1 && c2 && c3 && decide (x.err = 0)) := by
  have hr := hs.read
  have he := hs.era
  have d1 : decide (x.kind = 1) = false := decide_eq_false (by omega)
  have d2 : decide (x.kind = 2) = false := decide_eq_false (by omega)
  have d3 : decide (x.kind = 3) = true := decide_eq_true k3
  have hw : IntKind.i64.wrap (s.read + 1) = s.read + 1 := wrap_i64 (by omega) (by omega)
  have hw2 : IntKind.i64.wrap (s.era + 1) = s.era + 1 := wrap_i64 (by omega) (by omega)
  refine fnIs_of tab_ok Tryz.func71 rfl rfl rfl ?_
  cases c0 with
  | false =>
    have e1 : c1 = false := by rw [← h1]; exact decide_eq_false (by have := of_decide_eq_false h0; omega)
    subst e1
    refine sR ?_;refine rN ?_;refine rC ?_;refine nR ?_;iterate 3 refine rC ?_
    refine rQ iM ?_;refine rC ?_;refine nR ?_;iterate 3 refine rC ?_
    refine rQ iM ?_;refine rQ iD ?_;iterate 2 refine rC ?_
    refine reg_store (store_row tab_ok rfl rfl rfl ⟨_, ⟨_, ⟨rfl, rfl, rfl⟩, rfl⟩, rfl⟩ rfl) ?_;refine nR ?_;refine rC ?_;refine rQ iB ?_;iterate 2 refine rC ?_
    iterate 3 refine rS ?_
    refine rQ iF ?_;refine rC ?_;refine nR ?_;refine rC ?_;refine rQ iB ?_;refine rQ (build_array tab_ok rfl rfl rfl) ?_;refine rQ (eql_data rfl rfl rfl rfl (by kernel_rfl) (by decide) (block_eq x.value zBk)) ?_
    refine rC ?_;refine nQ ?_;refine wc_block ?_;refine sR ?_;refine rC ?_;refine rQ iB ?_;iterate 2 refine rC ?_
    refine nS ?_;refine wF ?_;refine sR ?_;refine rC ?_;refine rQ iB ?_;iterate 2 refine rC ?_
    refine nS ?_;refine wF ?_;refine sR ?_;refine rC ?_;refine rQ iB ?_;iterate 2 refine rC ?_
    refine nS ?_;refine wT ?_;refine sR ?_;iterate 3 refine rC ?_
    refine rQ (slice_ptr tab_ok rfl rfl rfl) ?_;refine reg_do rfl (clear_asl (enc := i6) (s := 1) (L := 8) tab_ok (0 : Int) rfl rfl rfl rfl rfl rfl rfl rfl ⟨_, ⟨_, ⟨rfl, rfl, rfl⟩, rfl⟩, rfl⟩) rfl rfl ?_
    refine nR ?_;iterate 3 refine rC ?_
    refine rQ iM ?_;refine rQ iD ?_;iterate 2 refine rC ?_
    refine reg_store (store_row tab_ok rfl rfl rfl ⟨_, ⟨_, ⟨rfl, rfl, rfl⟩, rfl⟩, rfl⟩ rfl) ?_;refine nR ?_;refine rC ?_;refine rQ iB ?_;iterate 2 refine rC ?_
    iterate 3 refine rS ?_
    refine rQ iF ?_;refine rC ?_;refine rT ?_;refine rQ iG ?_;refine rC ?_;iterate 3 refine rT ?_
    refine rQ iG ?_;refine rC ?_;refine nS ?_;refine wc_ret ?_;refine blk_r ?_;refine seq_r ?_
    exact ⟨trivial, [(64, some 1)], .of rfl rfl rfl rfl rfl ⟨⟨_, rfl, AVLe.of_eq rfl⟩, rfl, trivial⟩ ⟨⟨rfl, rfl, _, rfl, .refl _⟩, ⟨rfl, rfl, _, rfl, .refl _⟩, trivial⟩⟩
  | true =>
    cases c1 with
    | false =>
      refine sR ?_;refine rN ?_;refine rC ?_;refine nR ?_;iterate 3 refine rC ?_
      refine rQ iM ?_;refine rC ?_;refine nR ?_;iterate 3 refine rC ?_
      refine rQ iM ?_;refine rQ iD ?_;iterate 2 refine rC ?_
      refine reg_store (store_row tab_ok rfl rfl rfl ⟨_, ⟨_, ⟨rfl, rfl, rfl⟩, rfl⟩, rfl⟩ rfl) ?_;refine nR ?_;refine rC ?_;refine rQ iB ?_;iterate 2 refine rC ?_
      refine rO ?_;refine rC ?_;refine rO ?_;refine rQ iB ?_;refine rO ?_;refine rC ?_;refine rQ iT ?_;refine rC ?_;refine nR ?_;refine rC ?_;refine rQ iB ?_;refine rQ (build_array tab_ok rfl rfl rfl) ?_
      refine rQ (eql_data rfl rfl rfl rfl (by kernel_rfl) (by decide) (block_eq x.value zBk)) ?_;refine rC ?_;refine nQ ?_;refine wc_block ?_;refine sR ?_;refine rC ?_
      refine rQ iB ?_;iterate 2 refine rC ?_
      refine nS ?_;refine wF ?_;refine sR ?_;refine rC ?_;refine rQ iB ?_;iterate 2 refine rC ?_
      refine nS ?_;refine wF ?_;refine sR ?_;refine rC ?_;refine rQ iB ?_;iterate 2 refine rC ?_
      refine nS ?_;refine wT ?_;refine sR ?_;iterate 3 refine rC ?_
      refine rQ (slice_ptr tab_ok rfl rfl rfl) ?_;refine reg_do rfl (clear_asl (enc := i6) (s := 1) (L := 8) tab_ok (0 : Int) rfl rfl rfl rfl rfl rfl rfl rfl ⟨_, ⟨_, ⟨rfl, rfl, rfl⟩, rfl⟩, rfl⟩) rfl rfl ?_
      refine nR ?_;iterate 3 refine rC ?_
      refine rQ iM ?_;refine rQ iD ?_;iterate 2 refine rC ?_
      refine reg_store (store_row tab_ok rfl rfl rfl ⟨_, ⟨_, ⟨rfl, rfl, rfl⟩, rfl⟩, rfl⟩ rfl) ?_;refine nR ?_;refine rC ?_;refine rQ iB ?_;iterate 2 refine rC ?_
      iterate 3 refine rS ?_
      refine rQ iF ?_;refine rC ?_;refine rT ?_;refine rQ iG ?_;refine rC ?_;iterate 3 refine rT ?_
      refine rQ iG ?_;refine rC ?_;refine nS ?_;refine wc_ret ?_;refine blk_r ?_;refine seq_r ?_
      exact ⟨trivial, [(64, some 1)], .of rfl rfl rfl rfl rfl ⟨⟨_, rfl, AVLe.of_eq rfl⟩, rfl, trivial⟩ ⟨⟨rfl, rfl, _, rfl, .refl _⟩, ⟨rfl, rfl, _, rfl, .refl _⟩, trivial⟩⟩
    | true =>
      cases c2 with
      | false =>
        refine sR ?_;refine rN ?_;refine rC ?_;refine nR ?_;iterate 3 refine rC ?_
        refine rQ iM ?_;refine rC ?_;refine nR ?_;iterate 3 refine rC ?_
        refine rQ iM ?_;refine rQ iD ?_;iterate 2 refine rC ?_
        refine reg_store (store_row tab_ok rfl rfl rfl ⟨_, ⟨_, ⟨rfl, rfl, rfl⟩, rfl⟩, rfl⟩ rfl) ?_;refine nR ?_;refine rC ?_;refine rQ iB ?_;iterate 2 refine rC ?_
        refine rO ?_;refine rC ?_;refine rO ?_;refine rQ iB ?_;refine rO ?_;refine rC ?_;refine rQ iT ?_;refine rC ?_;refine nR ?_;refine rC ?_;refine rQ iB ?_;refine rQ (build_array tab_ok rfl rfl rfl) ?_
        refine rQ (eql_data rfl rfl rfl rfl (by kernel_rfl) (by decide) (block_eq x.value zBk)) ?_;refine rC ?_;refine nQ ?_;refine wc_block ?_;refine sR ?_;refine rC ?_
        refine rQ iB ?_;iterate 2 refine rC ?_
        refine nS ?_;refine wF ?_;refine sR ?_;refine rC ?_;refine rQ iB ?_;iterate 2 refine rC ?_
        refine nS ?_;refine wF ?_;refine sR ?_;refine rC ?_;refine rQ iB ?_;iterate 2 refine rC ?_
        refine nS ?_;refine wT ?_;refine sR ?_;iterate 3 refine rC ?_
        refine rQ (slice_ptr tab_ok rfl rfl rfl) ?_;refine reg_do rfl (clear_asl (enc := i6) (s := 1) (L := 8) tab_ok (0 : Int) rfl rfl rfl rfl rfl rfl rfl rfl ⟨_, ⟨_, ⟨rfl, rfl, rfl⟩, rfl⟩, rfl⟩) rfl rfl ?_
        refine nR ?_;iterate 3 refine rC ?_
        refine rQ iM ?_;refine rQ iD ?_;iterate 2 refine rC ?_
        refine reg_store (store_row tab_ok rfl rfl rfl ⟨_, ⟨_, ⟨rfl, rfl, rfl⟩, rfl⟩, rfl⟩ rfl) ?_;refine nR ?_;refine rC ?_;refine rQ iB ?_;iterate 2 refine rC ?_
        refine rO ?_;refine rC ?_;refine rO ?_;refine rQ iB ?_;refine rO ?_;refine rQ (call_r (blank_is x.op) rfl rfl (arg_e arg_nil) (.inl rfl) (fun _ => rfl)) ?_;refine rQ iT ?_
        refine rC ?_;refine rS ?_;refine rQ iF ?_;refine rC ?_;iterate 3 refine rT ?_
        refine rQ iG ?_;refine rC ?_;refine nS ?_;refine wc_ret ?_;refine blk_r ?_;refine seq_r ?_
        exact ⟨trivial, [(64, some 1)], .of rfl rfl rfl rfl rfl ⟨⟨_, rfl, AVLe.of_eq rfl⟩, rfl, trivial⟩ ⟨⟨rfl, rfl, _, rfl, .refl _⟩, ⟨rfl, rfl, _, rfl, .refl _⟩, trivial⟩⟩
      | true =>
        cases c3 with
        | false =>
          refine sR ?_;refine rN ?_;refine rC ?_;refine nR ?_;iterate 3 refine rC ?_
          refine rQ iM ?_;refine rC ?_;refine nR ?_;iterate 3 refine rC ?_
          refine rQ iM ?_;refine rQ iD ?_;iterate 2 refine rC ?_
          refine reg_store (store_row tab_ok rfl rfl rfl ⟨_, ⟨_, ⟨rfl, rfl, rfl⟩, rfl⟩, rfl⟩ rfl) ?_;refine nR ?_;refine rC ?_;refine rQ iB ?_;iterate 2 refine rC ?_
          refine rO ?_;refine rC ?_;refine rO ?_;refine rQ iB ?_;refine rO ?_;refine rC ?_;refine rQ iT ?_;refine rC ?_;refine nR ?_;refine rC ?_;refine rQ iB ?_;refine rQ (build_array tab_ok rfl rfl rfl) ?_
          refine rQ (eql_data rfl rfl rfl rfl (by kernel_rfl) (by decide) (block_eq x.value zBk)) ?_;refine rC ?_;refine nQ ?_;refine wc_block ?_;refine sR ?_;refine rC ?_
          refine rQ iB ?_;iterate 2 refine rC ?_
          refine nS ?_;refine wF ?_;refine sR ?_;refine rC ?_;refine rQ iB ?_;iterate 2 refine rC ?_
          refine nS ?_;refine wF ?_;refine sR ?_;refine rC ?_;refine rQ iB ?_;iterate 2 refine rC ?_
          refine nS ?_;refine wT ?_;refine sR ?_;iterate 3 refine rC ?_
          refine rQ (slice_ptr tab_ok rfl rfl rfl) ?_;refine reg_do rfl (clear_asl (enc := i6) (s := 1) (L := 8) tab_ok (0 : Int) rfl rfl rfl rfl rfl rfl rfl rfl ⟨_, ⟨_, ⟨rfl, rfl, rfl⟩, rfl⟩, rfl⟩) rfl rfl ?_
          refine nR ?_;iterate 3 refine rC ?_
          refine rQ iM ?_;refine rQ iD ?_;iterate 2 refine rC ?_
          refine reg_store (store_row tab_ok rfl rfl rfl ⟨_, ⟨_, ⟨rfl, rfl, rfl⟩, rfl⟩, rfl⟩ rfl) ?_;refine nR ?_;refine rC ?_;refine rQ iB ?_;iterate 2 refine rC ?_
          refine rO ?_;refine rC ?_;refine rO ?_;refine rQ iB ?_;refine rO ?_;refine rQ (call_r (blank_is x.op) rfl rfl (arg_e arg_nil) (.inl rfl) (fun _ => rfl)) ?_;refine rQ iT ?_
          refine rC ?_;refine rO ?_;refine rC ?_;refine rQ iT ?_;refine rC ?_;iterate 3 refine rS ?_
          refine rQ iF ?_;refine rC ?_;refine nS ?_;refine wc_ret ?_;refine blk_r ?_;refine seq_r ?_
          exact ⟨trivial, [(64, some 1)], .of rfl rfl rfl rfl rfl ⟨⟨_, rfl, AVLe.of_eq rfl⟩, rfl, trivial⟩ ⟨⟨rfl, rfl, _, rfl, .refl _⟩, ⟨rfl, rfl, _, rfl, .refl _⟩, trivial⟩⟩
        | true =>
          refine sR ?_;refine rN ?_;refine rC ?_;refine nR ?_;iterate 3 refine rC ?_
          refine rQ iM ?_;refine rC ?_;refine nR ?_;iterate 3 refine rC ?_
          refine rQ iM ?_;refine rQ iD ?_;iterate 2 refine rC ?_
          refine reg_store (store_row tab_ok rfl rfl rfl ⟨_, ⟨_, ⟨rfl, rfl, rfl⟩, rfl⟩, rfl⟩ rfl) ?_;refine nR ?_;refine rC ?_;refine rQ iB ?_;iterate 2 refine rC ?_
          refine rO ?_;refine rC ?_;refine rO ?_;refine rQ iB ?_;refine rO ?_;refine rC ?_;refine rQ iT ?_;refine rC ?_;refine nR ?_;refine rC ?_;refine rQ iB ?_;refine rQ (build_array tab_ok rfl rfl rfl) ?_
          refine rQ (eql_data rfl rfl rfl rfl (by kernel_rfl) (by decide) (block_eq x.value zBk)) ?_;refine rC ?_;refine nQ ?_;refine wc_block ?_;refine sR ?_;refine rC ?_
          refine rQ iB ?_;iterate 2 refine rC ?_
          refine nS ?_;refine wF ?_;refine sR ?_;refine rC ?_;refine rQ iB ?_;iterate 2 refine rC ?_
          refine nS ?_;refine wF ?_;refine sR ?_;refine rC ?_;refine rQ iB ?_;iterate 2 refine rC ?_
          refine nS ?_;refine wT ?_;refine sR ?_;iterate 3 refine rC ?_
          refine rQ (slice_ptr tab_ok rfl rfl rfl) ?_;refine reg_do rfl (clear_asl (enc := i6) (s := 1) (L := 8) tab_ok (0 : Int) rfl rfl rfl rfl rfl rfl rfl rfl ⟨_, ⟨_, ⟨rfl, rfl, rfl⟩, rfl⟩, rfl⟩) rfl rfl ?_
          refine nR ?_;iterate 3 refine rC ?_
          refine rQ iM ?_;refine rQ iD ?_;iterate 2 refine rC ?_
          refine reg_store (store_row tab_ok rfl rfl rfl ⟨_, ⟨_, ⟨rfl, rfl, rfl⟩, rfl⟩, rfl⟩ rfl) ?_;refine nR ?_;refine rC ?_;refine rQ iB ?_;iterate 2 refine rC ?_
          refine rO ?_;refine rC ?_;refine rO ?_;refine rQ iB ?_;refine rO ?_;refine rQ (call_r (blank_is x.op) rfl rfl (arg_e arg_nil) (.inl rfl) (fun _ => rfl)) ?_;refine rQ iT ?_
          refine rC ?_;refine rO ?_;refine rC ?_;refine rQ iT ?_;refine rC ?_;refine rO ?_;refine rC ?_;refine rO ?_;refine rQ iB ?_;refine rO ?_;refine rC ?_;refine rQ iT ?_
          refine rC ?_;refine nS ?_;refine wc_ret ?_;refine blk_r ?_;refine seq_r ?_
          exact ⟨trivial, [(64, some 1)], .of rfl rfl rfl rfl rfl ⟨⟨_, rfl, AVLe.of_eq rfl⟩, rfl, trivial⟩ ⟨⟨rfl, rfl, _, rfl, .refl _⟩, ⟨rfl, rfl, _, rfl, .refl _⟩, trivial⟩⟩
end Go.Proofs.YtmojbghcngdkpaaGreatDoor

namespace Go.Proofs.YtmojbghcngdkpaaGreatDoor
open Go.Eng Go.Plain
set_option maxHeartbeats 8000000
set_option maxRecDepth 20000
attribute [local irreducible] WC RegS RegD SeqQ BlkQ ScoQ RegK CutK Sat SatN FnIs LoopQ StepIs OpIs
theorem take_inv (s : RdS) (x : HEv) (n : Nat) (hs : s.Ok n) (hn : n ≤ 1000000) (k1 : x.kind = 1) (m : Int) (hc0 : 0 ≤ x.client) (hc8 : x.client < 8) (hbg : s.busy[x.client.toNat]? = some 0) (hng : s.number[x.client.toNat]? = some m) (hd64 : x.op.data.length ≤ 64) (hval : x.value = zBk) (herr : x.err = 0) :
    TakeIs s x ⟨s.busy.set x.client.toNat ((s.all.length + 1 : Nat) : Int), s.number.set x.client.toNat (m + 1), s.era, s.read + 1, s.all ++ [⟨x.client, m, s.era, x.op, s.read, -1, zBk, 0⟩]⟩ true := by
  have hr := hs.read
  have ha := hs.all
  have hm := hs.number m (List.mem_of_getElem? hng)
  have d1 : decide (x.kind = 1) = true := decide_eq_true k1
  have c0 : decide (0 ≤ x.client) = true := decide_eq_true hc0
  have c8 : decide (x.client < 8) = true := decide_eq_true hc8
  have n8 : (!decide (x.client < 8)) = false := by rw [c8]; rfl
  have b0 : decide ((0 : Int) < 0) = false := rfl
  have l64 : decide ((64 : Int) < ((byI x.op.data).length : Int)) = false := decide_eq_false (by rw [byI_len]; omega)
  have v0 : (!decide (x.value = zBk)) = false := by rw [decide_eq_true hval]; rfl
  have e0 : (!decide (x.err = 0)) = false := by rw [decide_eq_true herr]; rfl
  have hw : IntKind.i64.wrap (s.read + 1) = s.read + 1 := wrap_i64 (by omega) (by omega)
  have hwm : IntKind.i64.wrap (m + 1) = m + 1 := wrap_i64 (by omega) (by omega)
  have hlen : x.op.data.length ≤ 1048576 := by omega
  have hal : s.all.length + 1 ≤ 1048576 := by omega
  simp only [TakeIs, rdRow, List.length_append, List.length_cons, List.length_nil, Nat.zero_add]
  refine fnIs_of tab_ok Tryz.func71 rfl rfl rfl ?_;refine sR ?_;refine rN ?_;refine rC ?_;refine nR ?_;iterate 3 refine rC ?_
  refine rQ iM ?_;refine rC ?_;refine nR ?_;iterate 3 refine rC ?_
  refine rQ iM ?_;refine rQ iD ?_;iterate 2 refine rC ?_
  refine reg_store (store_row tab_ok rfl rfl rfl ⟨_, ⟨_, ⟨rfl, rfl, rfl⟩, rfl⟩, rfl⟩ rfl) ?_;refine nR ?_;refine rC ?_;refine rQ iB ?_;iterate 2 refine rC ?_
  refine rO ?_;refine rC ?_;refine rO ?_;refine rQ iB ?_;refine rO ?_;refine rC ?_;refine rQ iT ?_;refine rC ?_;refine nR ?_;refine rC ?_;refine rQ iB ?_;refine rQ (build_array tab_ok rfl rfl rfl) ?_
  refine rQ (eql_data rfl rfl rfl rfl (by kernel_rfl) (by decide) (block_eq x.value zBk)) ?_;refine rC ?_;refine nQ ?_;refine wc_block ?_;refine sR ?_;refine rC ?_
  refine rQ iB ?_;iterate 2 refine rC ?_
  refine nS ?_;refine wT ?_;iterate 2 refine wc_seq ?_
  refine wc_draw (by kernel_rfl) ?_;refine dC [6] [] ?_;refine dC [37] [] ?_;refine dC [38] [] ?_;refine dreg_onq [39, 0] [] rfl rfl (by assumption) rfl (step_C tab_ok (fun K hk => hk)) ?_
  refine dreg_onq [39, 3] [] rfl rfl (by assumption) rfl (step_C tab_ok (fun K hk => hk)) ?_;refine dreg_onq [39, 41] [64] rfl rfl (by assumption) rfl (load_box tab_ok rfl rfl ⟨_, rfl, rfl⟩ rfl) ?_
  refine dreg_onq [39, 40] [] rfl rfl (by assumption) rfl (step_C tab_ok (fun K hk => hk)) ?_;refine dreg_onq [39, 43] [] rfl rfl (by assumption) rfl (step_C tab_ok (fun K hk => hk)) ?_
  refine dreg_onq [39, 44, 42] [] rfl rfl (by assumption) rfl (step_C tab_ok (fun K hk => ⟨by omega, by omega, hk⟩)) ?_;refine dreg_onq [39, 45] [0] rfl rfl (by assumption) rfl (load_box tab_ok rfl rfl ⟨_, ⟨rfl, _, hbg, rfl⟩, rfl⟩ rfl) ?_
  refine dreg_onq [39, 46] [] rfl rfl (by assumption) rfl (step_C tab_ok (fun K hk => hk)) ?_;refine dQ [39, 47] [] iF ?_;refine dC [48] [] ?_;refine dreg_onq [49, 3] [] rfl rfl rfl rfl (step_C tab_ok (fun K hk => hk)) ?_
  refine dreg_onq [49, 50] [] rfl rfl rfl rfl (step_C tab_ok (fun K hk => hk)) ?_;refine dreg_onq [49, 51] [64] rfl rfl rfl rfl (load_box tab_ok rfl rfl ⟨_, rfl, rfl⟩ rfl) ?_
  refine dreg_onq [49, 52] [] rfl rfl rfl rfl (len_arr tab_ok rfl rfl) ?_;refine dreg_onq [49, 53] [] rfl rfl rfl rfl (step_C tab_ok (fun K hk => hk)) ?_;refine dQ [49, 54] [] iG ?_
  refine dC [55] [] ?_;refine dreg_onq [56, 7] [] rfl rfl (by assumption) rfl (step_C tab_ok (fun K hk => hk)) ?_;refine dreg_onq [56, 57] [] rfl rfl (by assumption) rfl (step_C tab_ok (fun K hk => hk)) ?_
  refine dQ [56, 58] [] iF ?_;refine dC [59] [] ?_;refine dreg_onq [60, 3] [] rfl rfl (by assumption) rfl (step_C tab_ok (fun K hk => hk)) ?_;refine dreg_onq [60, 61] [64] rfl rfl (by assumption) rfl (load_box tab_ok rfl rfl ⟨_, rfl, rfl⟩ rfl) ?_
  refine dreg_onq [60, 62] [] rfl rfl (by assumption) rfl (step_C tab_ok (fun K hk => hk)) ?_;refine dQ [60, 63] [] iF ?_;refine dreg_end (by kernel_rfl) ?_;refine seq_n ?_
  refine wF ?_;refine kS ?_;refine sR ?_;iterate 2 refine rC ?_
  refine rQ iB ?_;refine rQ (call_r (exb_is x.op.data hlen) rfl rfl (arg_e arg_nil) (.inl rfl) (fun _ => rfl)) ?_;iterate 2 refine rC ?_
  refine reg_store (store_row tab_ok rfl rfl rfl ⟨_, ⟨_, ⟨_, ⟨_, ⟨rfl, rfl, rfl⟩, rfl⟩, rfl⟩, rfl⟩, rfl⟩ rfl) ?_;refine nQ ?_;refine wc_draw (by kernel_rfl) ?_;iterate 2 refine dC [0] [] ?_
  refine dC [72] [] ?_;refine dC [73] [] ?_;refine dQ [74] [0] iM ?_;refine dC [3] [] ?_;refine dQ [76] [64] iB ?_;refine dC [0] [] ?_;refine dC [3] [] ?_;refine dQ [79] [64] iB ?_
  refine dC [78] [] ?_;refine dC [81] [] ?_;refine dQ [82, 80] [] (step_C tab_ok (fun K hk => ⟨by omega, by omega, hk⟩)) ?_;refine dQ [83] [0] (load_box tab_ok rfl rfl ⟨_, ⟨rfl, _, hng, rfl⟩, rfl⟩ rfl) ?_
  refine dC [0] [] ?_;refine dC [85] [] ?_;refine dC [86] [] ?_;refine dQ [87] [0] iM ?_;refine dC [3] [] ?_;refine dQ [89] [64] iB ?_;refine dC [5] [] ?_;refine dQ [77, 84, 88, 90, 91] [] iS ?_
  refine dreg_w [92] [] rfl (build_slice (s := 41) tab_ok rfl rfl rfl rfl rfl rfl rfl rfl) ?_;refine dreg_w2 [75, 93] [1, 784] rfl (append_one (enc := encOpn) (s := 41) (xs := s.all) tab_ok ⟨x.client, m, s.era, x.op, s.read, -1, zBk, 0⟩ rfl rfl rfl rfl rfl rfl rfl rfl rfl hal rfl) ?_
  refine dC [71] [] ?_;refine dC [95] [] ?_;refine dreg_s [96, 94] [0] (store_row tab_ok rfl rfl rfl ⟨_, ⟨_, ⟨rfl, rfl, rfl⟩, rfl⟩, rfl⟩ rfl) ?_;refine dreg_end (by kernel_rfl) ?_
  refine seq_n ?_;refine wc_seq ?_;refine wc_draw (by kernel_rfl) ?_;refine dC [0] [] ?_;refine dC [3] [] ?_;refine dQ [98] [64] iB ?_;refine dC [97] [] ?_;refine dC [100] [] ?_
  refine dQ [101, 99] [] (step_C tab_ok (fun K hk => ⟨by omega, by omega, hk⟩)) ?_;refine dQ [102] [0] (load_box tab_ok rfl rfl ⟨_, ⟨rfl, _, hng, rfl⟩, rfl⟩ rfl) ?_
  refine dQ [103] [] iD ?_;refine dC [97] [] ?_;refine dC [105] [] ?_;refine dQ [106, 99] [] (step_C tab_ok (fun K hk => ⟨by omega, by omega, hk⟩)) ?_;refine dreg_s [107, 104] [0] (store_row tab_ok rfl rfl rfl ⟨_, ⟨_, ⟨_, ⟨rfl, _, m + 1, hng, ⟨rfl, rfl, rfl⟩, rfl⟩, rfl⟩, rfl⟩, rfl⟩ rfl) ?_
  refine dreg_end (by kernel_rfl) ?_;refine seq_n ?_;refine wc_draw (by kernel_rfl) ?_;refine dC [0] [] ?_;refine dC [3] [] ?_;refine dQ [109] [64] iB ?_;refine dC [0] [] ?_
  refine dC [111] [] ?_;refine dC [112] [] ?_;refine dQ [113] [0] iM ?_;refine dQ [114] [792] (len_own tab_ok rfl rfl) ?_;refine dC [108] [] ?_;refine dC [116] [] ?_
  refine dQ [117, 110] [] (step_C tab_ok (fun K hk => ⟨by omega, by omega, hk⟩)) ?_;refine dreg_s [118, 115] [0] (store_row tab_ok rfl rfl rfl ⟨_, ⟨_, ⟨_, ⟨rfl, _, ((s.all.length + 1 : Nat) : Int), hbg, ⟨rfl, rfl, rfl⟩, rfl⟩, rfl⟩, rfl⟩, rfl⟩ rfl) ?_
  refine dreg_end (by kernel_rfl) ?_;refine blk_n ?_;refine seq_n ?_;refine sR ?_;refine rC ?_;refine nS ?_;refine wc_ret ?_
  exact ⟨trivial, [(64, some _)], .of rfl rfl rfl rfl rfl ⟨⟨_, rfl, AVLe.of_eq rfl⟩, rfl, trivial⟩ ⟨⟨rfl, rfl, _, rfl, .refl _⟩, ⟨rfl, rfl, _, rfl, .refl _⟩, trivial⟩⟩
theorem take_inv_no (s : RdS) (x : HEv) (n : Nat) (hs : s.Ok n) (hn : n ≤ 1000000) (k1 : x.kind = 1) (hno : inv1 s x = false) : TakeIs s x { s with read := s.read + 1 } false := by
  have hr := hs.read
  have d1 : decide (x.kind = 1) = true := decide_eq_true k1
  have hw : IntKind.i64.wrap (s.read + 1) = s.read + 1 := wrap_i64 (by omega) (by omega)
  refine fnIs_of tab_ok Tryz.func71 rfl rfl rfl ?_
  by_cases hc0 : 0 ≤ x.client
  · have c0 : decide (0 ≤ x.client) = true := decide_eq_true hc0
    by_cases hc8 : x.client < 8
    · have c8 : decide (x.client < 8) = true := decide_eq_true hc8
      have n8 : (!decide (x.client < 8)) = false := by rw [c8]; rfl
      obtain ⟨b, hbg⟩ : ∃ b, s.busy[x.client.toNat]? = some b := ⟨_, List.getElem?_eq_getElem (by rw [hs.blen]; omega)⟩
      have hb := hs.busy b (List.mem_of_getElem? hbg)
      by_cases hb0 : b = 0
      · have b0 : decide (0 < b) = false := decide_eq_false (by omega)
        by_cases hd : x.op.data.length ≤ 64
        · have l64 : decide ((64 : Int) < ((byI x.op.data).length : Int)) = false := decide_eq_false (by rw [byI_len]; omega)
          by_cases hv : x.value = zBk
          · have v0 : (!decide (x.value = zBk)) = false := by rw [decide_eq_true hv]; rfl
            have e0 : (!decide (x.err = 0)) = true := by
              cases h : decide (x.err = 0) with
              | false => rfl
              | true =>
                rw [inv1, c0, c8, hbg, hb0, decide_eq_true hd, decide_eq_true hv, h] at hno
                cases hno
            refine sR ?_;refine rN ?_;refine rC ?_;refine nR ?_;iterate 3 refine rC ?_
            refine rQ iM ?_;refine rC ?_;refine nR ?_;iterate 3 refine rC ?_
            refine rQ iM ?_;refine rQ iD ?_;iterate 2 refine rC ?_
            refine reg_store (store_row tab_ok rfl rfl rfl ⟨_, ⟨_, ⟨rfl, rfl, rfl⟩, rfl⟩, rfl⟩ rfl) ?_;refine nR ?_;refine rC ?_;refine rQ iB ?_;iterate 2 refine rC ?_
            refine rO ?_;refine rC ?_;refine rO ?_;refine rQ iB ?_;refine rO ?_;refine rC ?_;refine rQ iT ?_;refine rC ?_;refine nR ?_;refine rC ?_;refine rQ iB ?_;refine rQ (build_array tab_ok rfl rfl rfl) ?_
            refine rQ (eql_data rfl rfl rfl rfl (by kernel_rfl) (by decide) (block_eq x.value zBk)) ?_;refine rC ?_;refine nQ ?_;refine wc_block ?_;refine sR ?_;refine rC ?_
            refine rQ iB ?_;iterate 2 refine rC ?_
            refine nS ?_;refine wT ?_;iterate 2 refine wc_seq ?_
            refine wc_draw (by kernel_rfl) ?_;refine dC [6] [] ?_;refine dC [37] [] ?_;refine dC [38] [] ?_;refine dreg_onq [39, 0] [] rfl rfl (by assumption) rfl (step_C tab_ok (fun K hk => hk)) ?_
            refine dreg_onq [39, 3] [] rfl rfl (by assumption) rfl (step_C tab_ok (fun K hk => hk)) ?_;refine dreg_onq [39, 41] [64] rfl rfl (by assumption) rfl (load_box tab_ok rfl rfl ⟨_, rfl, rfl⟩ rfl) ?_
            refine dreg_onq [39, 40] [] rfl rfl (by assumption) rfl (step_C tab_ok (fun K hk => hk)) ?_;refine dreg_onq [39, 43] [] rfl rfl (by assumption) rfl (step_C tab_ok (fun K hk => hk)) ?_
            refine dreg_onq [39, 44, 42] [] rfl rfl (by assumption) rfl (step_C tab_ok (fun K hk => ⟨by omega, by omega, hk⟩)) ?_;refine dreg_onq [39, 45] [0] rfl rfl (by assumption) rfl (load_box tab_ok rfl rfl ⟨_, ⟨rfl, _, hbg, rfl⟩, rfl⟩ rfl) ?_
            refine dreg_onq [39, 46] [] rfl rfl (by assumption) rfl (step_C tab_ok (fun K hk => hk)) ?_;refine dQ [39, 47] [] iF ?_;refine dC [48] [] ?_;refine dreg_onq [49, 3] [] rfl rfl (by assumption) rfl (step_C tab_ok (fun K hk => hk)) ?_
            refine dreg_onq [49, 50] [] rfl rfl (by assumption) rfl (step_C tab_ok (fun K hk => hk)) ?_;refine dreg_onq [49, 51] [64] rfl rfl (by assumption) rfl (load_box tab_ok rfl rfl ⟨_, rfl, rfl⟩ rfl) ?_
            refine dreg_onq [49, 52] [] rfl rfl (by assumption) rfl (len_arr tab_ok rfl rfl) ?_;refine dreg_onq [49, 53] [] rfl rfl (by assumption) rfl (step_C tab_ok (fun K hk => hk)) ?_
            refine dQ [49, 54] [] iF ?_;refine dC [55] [] ?_;refine dreg_onq [56, 7] [] rfl rfl (by assumption) rfl (step_C tab_ok (fun K hk => hk)) ?_;refine dreg_onq [56, 57] [] rfl rfl (by assumption) rfl (step_C tab_ok (fun K hk => hk)) ?_
            refine dQ [56, 58] [] iF ?_;refine dC [59] [] ?_;refine dreg_onq [60, 3] [] rfl rfl (by assumption) rfl (step_C tab_ok (fun K hk => hk)) ?_;refine dreg_onq [60, 61] [64] rfl rfl (by assumption) rfl (load_box tab_ok rfl rfl ⟨_, rfl, rfl⟩ rfl) ?_
            refine dreg_onq [60, 62] [] rfl rfl (by assumption) rfl (step_C tab_ok (fun K hk => hk)) ?_;refine dQ [60, 63] [] iF ?_;refine dreg_end (by kernel_rfl) ?_;refine seq_n ?_
            refine wT ?_;refine sR ?_;refine rC ?_;refine nS ?_;refine wc_ret ?_;refine seq_r ?_;refine blk_r ?_;refine seq_r ?_
            exact ⟨trivial, [(64, some 1)], .of rfl rfl rfl rfl rfl ⟨⟨_, rfl, AVLe.of_eq rfl⟩, rfl, trivial⟩ ⟨⟨rfl, rfl, _, rfl, .refl _⟩, ⟨rfl, rfl, _, rfl, .refl _⟩, trivial⟩⟩
          · have v0 : (!decide (x.value = zBk)) = true := by rw [decide_eq_false hv]; rfl
            refine sR ?_;refine rN ?_;refine rC ?_;refine nR ?_;iterate 3 refine rC ?_
            refine rQ iM ?_;refine rC ?_;refine nR ?_;iterate 3 refine rC ?_
            refine rQ iM ?_;refine rQ iD ?_;iterate 2 refine rC ?_
            refine reg_store (store_row tab_ok rfl rfl rfl ⟨_, ⟨_, ⟨rfl, rfl, rfl⟩, rfl⟩, rfl⟩ rfl) ?_;refine nR ?_;refine rC ?_;refine rQ iB ?_;iterate 2 refine rC ?_
            refine rO ?_;refine rC ?_;refine rO ?_;refine rQ iB ?_;refine rO ?_;refine rC ?_;refine rQ iT ?_;refine rC ?_;refine nR ?_;refine rC ?_;refine rQ iB ?_;refine rQ (build_array tab_ok rfl rfl rfl) ?_
            refine rQ (eql_data rfl rfl rfl rfl (by kernel_rfl) (by decide) (block_eq x.value zBk)) ?_;refine rC ?_;refine nQ ?_;refine wc_block ?_;refine sR ?_;refine rC ?_
            refine rQ iB ?_;iterate 2 refine rC ?_
            refine nS ?_;refine wT ?_;iterate 2 refine wc_seq ?_
            refine wc_draw (by kernel_rfl) ?_;refine dC [6] [] ?_;refine dC [37] [] ?_;refine dC [38] [] ?_;refine dreg_onq [39, 0] [] rfl rfl (by assumption) rfl (step_C tab_ok (fun K hk => hk)) ?_
            refine dreg_onq [39, 3] [] rfl rfl (by assumption) rfl (step_C tab_ok (fun K hk => hk)) ?_;refine dreg_onq [39, 41] [64] rfl rfl (by assumption) rfl (load_box tab_ok rfl rfl ⟨_, rfl, rfl⟩ rfl) ?_
            refine dreg_onq [39, 40] [] rfl rfl (by assumption) rfl (step_C tab_ok (fun K hk => hk)) ?_;refine dreg_onq [39, 43] [] rfl rfl (by assumption) rfl (step_C tab_ok (fun K hk => hk)) ?_
            refine dreg_onq [39, 44, 42] [] rfl rfl (by assumption) rfl (step_C tab_ok (fun K hk => ⟨by omega, by omega, hk⟩)) ?_;refine dreg_onq [39, 45] [0] rfl rfl (by assumption) rfl (load_box tab_ok rfl rfl ⟨_, ⟨rfl, _, hbg, rfl⟩, rfl⟩ rfl) ?_
            refine dreg_onq [39, 46] [] rfl rfl (by assumption) rfl (step_C tab_ok (fun K hk => hk)) ?_;refine dQ [39, 47] [] iF ?_;refine dC [48] [] ?_;refine dreg_onq [49, 3] [] rfl rfl (by assumption) rfl (step_C tab_ok (fun K hk => hk)) ?_
            refine dreg_onq [49, 50] [] rfl rfl (by assumption) rfl (step_C tab_ok (fun K hk => hk)) ?_;refine dreg_onq [49, 51] [64] rfl rfl (by assumption) rfl (load_box tab_ok rfl rfl ⟨_, rfl, rfl⟩ rfl) ?_
            refine dreg_onq [49, 52] [] rfl rfl (by assumption) rfl (len_arr tab_ok rfl rfl) ?_;refine dreg_onq [49, 53] [] rfl rfl (by assumption) rfl (step_C tab_ok (fun K hk => hk)) ?_
            refine dQ [49, 54] [] iF ?_;refine dC [55] [] ?_;refine dreg_onq [56, 7] [] rfl rfl (by assumption) rfl (step_C tab_ok (fun K hk => hk)) ?_;refine dreg_onq [56, 57] [] rfl rfl (by assumption) rfl (step_C tab_ok (fun K hk => hk)) ?_
            refine dQ [56, 58] [] iF ?_;refine dC [59] [] ?_;refine dreg_offq [60, 3] rfl rfl (by assumption) rfl ?_;refine dreg_offq [60, 61] rfl rfl (by assumption) rfl ?_
            refine dreg_offq [60, 62] rfl rfl (by assumption) rfl ?_;refine dQ [60, 63] [] iT ?_;refine dreg_end (by kernel_rfl) ?_;refine seq_n ?_;refine wV ?_;refine sR ?_
            refine rC ?_;refine nS ?_;refine wc_ret ?_;refine seq_r ?_;refine blk_r ?_;refine seq_r ?_
            exact ⟨trivial, [(64, some 1)], .of rfl rfl rfl rfl rfl ⟨⟨_, rfl, AVLe.of_eq rfl⟩, rfl, trivial⟩ ⟨⟨rfl, rfl, _, rfl, .refl _⟩, ⟨rfl, rfl, _, rfl, .refl _⟩, trivial⟩⟩
        · have l64 : decide ((64 : Int) < ((byI x.op.data).length : Int)) = true := decide_eq_true (by rw [byI_len]; omega)
          refine sR ?_;refine rN ?_;refine rC ?_;refine nR ?_;iterate 3 refine rC ?_
          refine rQ iM ?_;refine rC ?_;refine nR ?_;iterate 3 refine rC ?_
          refine rQ iM ?_;refine rQ iD ?_;iterate 2 refine rC ?_
          refine reg_store (store_row tab_ok rfl rfl rfl ⟨_, ⟨_, ⟨rfl, rfl, rfl⟩, rfl⟩, rfl⟩ rfl) ?_;refine nR ?_;refine rC ?_;refine rQ iB ?_;iterate 2 refine rC ?_
          refine rO ?_;refine rC ?_;refine rO ?_;refine rQ iB ?_;refine rO ?_;refine rC ?_;refine rQ iT ?_;refine rC ?_;refine nR ?_;refine rC ?_;refine rQ iB ?_;refine rQ (build_array tab_ok rfl rfl rfl) ?_
          refine rQ (eql_data rfl rfl rfl rfl (by kernel_rfl) (by decide) (block_eq x.value zBk)) ?_;refine rC ?_;refine nQ ?_;refine wc_block ?_;refine sR ?_;refine rC ?_
          refine rQ iB ?_;iterate 2 refine rC ?_
          refine nS ?_;refine wT ?_;iterate 2 refine wc_seq ?_
          refine wc_draw (by kernel_rfl) ?_;refine dC [6] [] ?_;refine dC [37] [] ?_;refine dC [38] [] ?_;refine dreg_onq [39, 0] [] rfl rfl (by assumption) rfl (step_C tab_ok (fun K hk => hk)) ?_
          refine dreg_onq [39, 3] [] rfl rfl (by assumption) rfl (step_C tab_ok (fun K hk => hk)) ?_;refine dreg_onq [39, 41] [64] rfl rfl (by assumption) rfl (load_box tab_ok rfl rfl ⟨_, rfl, rfl⟩ rfl) ?_
          refine dreg_onq [39, 40] [] rfl rfl (by assumption) rfl (step_C tab_ok (fun K hk => hk)) ?_;refine dreg_onq [39, 43] [] rfl rfl (by assumption) rfl (step_C tab_ok (fun K hk => hk)) ?_
          refine dreg_onq [39, 44, 42] [] rfl rfl (by assumption) rfl (step_C tab_ok (fun K hk => ⟨by omega, by omega, hk⟩)) ?_;refine dreg_onq [39, 45] [0] rfl rfl (by assumption) rfl (load_box tab_ok rfl rfl ⟨_, ⟨rfl, _, hbg, rfl⟩, rfl⟩ rfl) ?_
          refine dreg_onq [39, 46] [] rfl rfl (by assumption) rfl (step_C tab_ok (fun K hk => hk)) ?_;refine dQ [39, 47] [] iF ?_;refine dC [48] [] ?_;refine dreg_onq [49, 3] [] rfl rfl (by assumption) rfl (step_C tab_ok (fun K hk => hk)) ?_
          refine dreg_onq [49, 50] [] rfl rfl (by assumption) rfl (step_C tab_ok (fun K hk => hk)) ?_;refine dreg_onq [49, 51] [64] rfl rfl (by assumption) rfl (load_box tab_ok rfl rfl ⟨_, rfl, rfl⟩ rfl) ?_
          refine dreg_onq [49, 52] [] rfl rfl (by assumption) rfl (len_arr tab_ok rfl rfl) ?_;refine dreg_onq [49, 53] [] rfl rfl (by assumption) rfl (step_C tab_ok (fun K hk => hk)) ?_
          refine dQ [49, 54] [] iF ?_;refine dC [55] [] ?_;refine dreg_offq [56, 7] rfl rfl (by assumption) rfl ?_;refine dreg_offq [56, 57] rfl rfl (by assumption) rfl ?_
          refine dQ [56, 58] [] iT ?_;refine dC [59] [] ?_;refine dreg_offq [60, 3] rfl rfl rfl rfl ?_;refine dreg_offq [60, 61] rfl rfl rfl rfl ?_;refine dreg_offq [60, 62] rfl rfl rfl rfl ?_
          refine dQ [60, 63] [] iU ?_;refine dreg_end (by kernel_rfl) ?_;refine seq_n ?_;refine wV ?_;refine sR ?_;refine rC ?_;refine nS ?_;refine wc_ret ?_;refine seq_r ?_
          refine blk_r ?_;refine seq_r ?_
          exact ⟨trivial, [(64, some 1)], .of rfl rfl rfl rfl rfl ⟨⟨_, rfl, AVLe.of_eq rfl⟩, rfl, trivial⟩ ⟨⟨rfl, rfl, _, rfl, .refl _⟩, ⟨rfl, rfl, _, rfl, .refl _⟩, trivial⟩⟩
      · have b0 : decide (0 < b) = true := decide_eq_true (by omega)
        refine sR ?_;refine rN ?_;refine rC ?_;refine nR ?_;iterate 3 refine rC ?_
        refine rQ iM ?_;refine rC ?_;refine nR ?_;iterate 3 refine rC ?_
        refine rQ iM ?_;refine rQ iD ?_;iterate 2 refine rC ?_
        refine reg_store (store_row tab_ok rfl rfl rfl ⟨_, ⟨_, ⟨rfl, rfl, rfl⟩, rfl⟩, rfl⟩ rfl) ?_;refine nR ?_;refine rC ?_;refine rQ iB ?_;iterate 2 refine rC ?_
        refine rO ?_;refine rC ?_;refine rO ?_;refine rQ iB ?_;refine rO ?_;refine rC ?_;refine rQ iT ?_;refine rC ?_;refine nR ?_;refine rC ?_;refine rQ iB ?_;refine rQ (build_array tab_ok rfl rfl rfl) ?_
        refine rQ (eql_data rfl rfl rfl rfl (by kernel_rfl) (by decide) (block_eq x.value zBk)) ?_;refine rC ?_;refine nQ ?_;refine wc_block ?_;refine sR ?_;refine rC ?_
        refine rQ iB ?_;iterate 2 refine rC ?_
        refine nS ?_;refine wT ?_;iterate 2 refine wc_seq ?_
        refine wc_draw (by kernel_rfl) ?_;refine dC [6] [] ?_;refine dC [37] [] ?_;refine dC [38] [] ?_;refine dreg_onq [39, 0] [] rfl rfl (by assumption) rfl (step_C tab_ok (fun K hk => hk)) ?_
        refine dreg_onq [39, 3] [] rfl rfl (by assumption) rfl (step_C tab_ok (fun K hk => hk)) ?_;refine dreg_onq [39, 41] [64] rfl rfl (by assumption) rfl (load_box tab_ok rfl rfl ⟨_, rfl, rfl⟩ rfl) ?_
        refine dreg_onq [39, 40] [] rfl rfl (by assumption) rfl (step_C tab_ok (fun K hk => hk)) ?_;refine dreg_onq [39, 43] [] rfl rfl (by assumption) rfl (step_C tab_ok (fun K hk => hk)) ?_
        refine dreg_onq [39, 44, 42] [] rfl rfl (by assumption) rfl (step_C tab_ok (fun K hk => ⟨by omega, by omega, hk⟩)) ?_;refine dreg_onq [39, 45] [0] rfl rfl (by assumption) rfl (load_box tab_ok rfl rfl ⟨_, ⟨rfl, _, hbg, rfl⟩, rfl⟩ rfl) ?_
        refine dreg_onq [39, 46] [] rfl rfl (by assumption) rfl (step_C tab_ok (fun K hk => hk)) ?_;refine dQ [39, 47] [] iF ?_;refine dC [48] [] ?_;refine dreg_offq [49, 3] rfl rfl (by assumption) rfl ?_
        refine dreg_offq [49, 50] rfl rfl (by assumption) rfl ?_;refine dreg_offq [49, 51] rfl rfl (by assumption) rfl ?_;refine dreg_offq [49, 52] rfl rfl (by assumption) rfl ?_
        refine dreg_offq [49, 53] rfl rfl (by assumption) rfl ?_;refine dQ [49, 54] [] iT ?_;refine dC [55] [] ?_;refine dreg_offq [56, 7] rfl rfl rfl rfl ?_;refine dreg_offq [56, 57] rfl rfl rfl rfl ?_
        refine dQ [56, 58] [] iU ?_;refine dC [59] [] ?_;refine dreg_offq [60, 3] rfl rfl rfl rfl ?_;refine dreg_offq [60, 61] rfl rfl rfl rfl ?_;refine dreg_offq [60, 62] rfl rfl rfl rfl ?_
        refine dQ [60, 63] [] iU ?_;refine dreg_end (by kernel_rfl) ?_;refine seq_n ?_;refine wV ?_;refine sR ?_;refine rC ?_;refine nS ?_;refine wc_ret ?_;refine seq_r ?_
        refine blk_r ?_;refine seq_r ?_
        exact ⟨trivial, [(64, some 1)], .of rfl rfl rfl rfl rfl ⟨⟨_, rfl, AVLe.of_eq rfl⟩, rfl, trivial⟩ ⟨⟨rfl, rfl, _, rfl, .refl _⟩, ⟨rfl, rfl, _, rfl, .refl _⟩, trivial⟩⟩
    · have c8 : decide (x.client < 8) = false := decide_eq_false hc8
      have n8 : (!decide (x.client < 8)) = true := by rw [c8]; rfl
      refine sR ?_;refine rN ?_;refine rC ?_;refine nR ?_;iterate 3 refine rC ?_
      refine rQ iM ?_;refine rC ?_;refine nR ?_;iterate 3 refine rC ?_
      refine rQ iM ?_;refine rQ iD ?_;iterate 2 refine rC ?_
      refine reg_store (store_row tab_ok rfl rfl rfl ⟨_, ⟨_, ⟨rfl, rfl, rfl⟩, rfl⟩, rfl⟩ rfl) ?_;refine nR ?_;refine rC ?_;refine rQ iB ?_;iterate 2 refine rC ?_
      refine rO ?_;refine rC ?_;refine rO ?_;refine rQ iB ?_;refine rO ?_;refine rC ?_;refine rQ iT ?_;refine rC ?_;refine nR ?_;refine rC ?_;refine rQ iB ?_;refine rQ (build_array tab_ok rfl rfl rfl) ?_
      refine rQ (eql_data rfl rfl rfl rfl (by kernel_rfl) (by decide) (block_eq x.value zBk)) ?_;refine rC ?_;refine nQ ?_;refine wc_block ?_;refine sR ?_;refine rC ?_
      refine rQ iB ?_;iterate 2 refine rC ?_
      refine nS ?_;refine wT ?_;iterate 2 refine wc_seq ?_
      refine wc_draw (by kernel_rfl) ?_;refine dC [6] [] ?_;refine dC [37] [] ?_;refine dC [38] [] ?_;refine dreg_offq [39, 0] rfl rfl (by assumption) rfl ?_;refine dreg_offq [39, 3] rfl rfl (by assumption) rfl ?_
      refine dreg_offq [39, 41] rfl rfl (by assumption) rfl ?_;refine dreg_offq [39, 40] rfl rfl (by assumption) rfl ?_;refine dreg_offq [39, 43] rfl rfl (by assumption) rfl ?_
      refine dreg_offq [39, 44, 42] rfl rfl (by assumption) rfl ?_;refine dreg_offq [39, 45] rfl rfl (by assumption) rfl ?_;refine dreg_offq [39, 46] rfl rfl (by assumption) rfl ?_
      refine dQ [39, 47] [] iT ?_;refine dC [48] [] ?_;refine dreg_offq [49, 3] rfl rfl rfl rfl ?_;refine dreg_offq [49, 50] rfl rfl rfl rfl ?_;refine dreg_offq [49, 51] rfl rfl rfl rfl ?_
      refine dreg_offq [49, 52] rfl rfl rfl rfl ?_;refine dreg_offq [49, 53] rfl rfl rfl rfl ?_;refine dQ [49, 54] [] iU ?_;refine dC [55] [] ?_;refine dreg_offq [56, 7] rfl rfl rfl rfl ?_
      refine dreg_offq [56, 57] rfl rfl rfl rfl ?_;refine dQ [56, 58] [] iU ?_;refine dC [59] [] ?_;refine dreg_offq [60, 3] rfl rfl rfl rfl ?_;refine dreg_offq [60, 61] rfl rfl rfl rfl ?_
      refine dreg_offq [60, 62] rfl rfl rfl rfl ?_;refine dQ [60, 63] [] iU ?_;refine dreg_end (by kernel_rfl) ?_;refine seq_n ?_;refine wV ?_;refine sR ?_;refine rC ?_
      refine nS ?_;refine wc_ret ?_;refine seq_r ?_;refine blk_r ?_;refine seq_r ?_
      exact ⟨trivial, [(64, some 1)], .of rfl rfl rfl rfl rfl ⟨⟨_, rfl, AVLe.of_eq rfl⟩, rfl, trivial⟩ ⟨⟨rfl, rfl, _, rfl, .refl _⟩, ⟨rfl, rfl, _, rfl, .refl _⟩, trivial⟩⟩
  · have c0 : decide (0 ≤ x.client) = false := decide_eq_false hc0
    refine sR ?_;refine rN ?_;refine rC ?_;refine nR ?_;iterate 3 refine rC ?_
    refine rQ iM ?_;refine rC ?_;refine nR ?_;iterate 3 refine rC ?_
    refine rQ iM ?_;refine rQ iD ?_;iterate 2 refine rC ?_
    refine reg_store (store_row tab_ok rfl rfl rfl ⟨_, ⟨_, ⟨rfl, rfl, rfl⟩, rfl⟩, rfl⟩ rfl) ?_;refine nR ?_;refine rC ?_;refine rQ iB ?_;iterate 2 refine rC ?_
    iterate 3 refine rS ?_
    refine rQ iF ?_;refine rC ?_;refine nR ?_;refine rC ?_;refine rQ iB ?_;refine rQ (build_array tab_ok rfl rfl rfl) ?_;refine rQ (eql_data rfl rfl rfl rfl (by kernel_rfl) (by decide) (block_eq x.value zBk)) ?_
    refine rC ?_;refine nQ ?_;refine wc_block ?_;refine sR ?_;refine rC ?_;refine rQ iB ?_;iterate 2 refine rC ?_
    refine nS ?_;refine wT ?_;iterate 2 refine wc_seq ?_
    refine wc_draw (by kernel_rfl) ?_;refine dC [6] [] ?_;refine dC [37] [] ?_;refine dC [38] [] ?_;refine dreg_offq [39, 0] rfl rfl rfl rfl ?_;refine dreg_offq [39, 3] rfl rfl rfl rfl ?_
    refine dreg_offq [39, 41] rfl rfl rfl rfl ?_;refine dreg_offq [39, 40] rfl rfl rfl rfl ?_;refine dreg_offq [39, 43] rfl rfl rfl rfl ?_;refine dreg_offq [39, 44, 42] rfl rfl rfl rfl ?_
    refine dreg_offq [39, 45] rfl rfl rfl rfl ?_;refine dreg_offq [39, 46] rfl rfl rfl rfl ?_;refine dQ [39, 47] [] iU ?_;refine dC [48] [] ?_;refine dreg_offq [49, 3] rfl rfl rfl rfl ?_
    refine dreg_offq [49, 50] rfl rfl rfl rfl ?_;refine dreg_offq [49, 51] rfl rfl rfl rfl ?_;refine dreg_offq [49, 52] rfl rfl rfl rfl ?_;refine dreg_offq [49, 53] rfl rfl rfl rfl ?_
    refine dQ [49, 54] [] iU ?_;refine dC [55] [] ?_;refine dreg_offq [56, 7] rfl rfl rfl rfl ?_;refine dreg_offq [56, 57] rfl rfl rfl rfl ?_;refine dQ [56, 58] [] iU ?_
    refine dC [59] [] ?_;refine dreg_offq [60, 3] rfl rfl rfl rfl ?_;refine dreg_offq [60, 61] rfl rfl rfl rfl ?_;refine dreg_offq [60, 62] rfl rfl rfl rfl ?_;refine dQ [60, 63] [] iU ?_
    refine dreg_end (by kernel_rfl) ?_;refine seq_n ?_;refine wV ?_;refine sR ?_;refine rC ?_;refine nS ?_;refine wc_ret ?_;refine seq_r ?_;refine blk_r ?_;refine seq_r ?_
    exact ⟨trivial, [(64, some 1)], .of rfl rfl rfl rfl rfl ⟨⟨_, rfl, AVLe.of_eq rfl⟩, rfl, trivial⟩ ⟨⟨rfl, rfl, _, rfl, .refl _⟩, ⟨rfl, rfl, _, rfl, .refl _⟩, trivial⟩⟩
end Go.Proofs.YtmojbghcngdkpaaGreatDoor

namespace Go.Proofs.YtmojbghcngdkpaaGreatDoor
open Go.Eng Go.Plain
set_option maxHeartbeats 8000000
set_option maxRecDepth 20000
attribute [local irreducible] WC RegS RegD SeqQ BlkQ ScoQ RegK CutK Sat SatN FnIs LoopQ StepIs OpIs
theorem kn4_any (e : Int) : ([0, 1, 8, 9] : List Int).any (fun y => decide (e = y)) = kn4 e := by simp [kn4, Bool.or_assoc]
theorem take_ret_w (s : RdS) (x : HEv) (n : Nat) (hs : s.Ok n) (hn : n ≤ 1000000) (k2 : x.kind = 2) (b : Int) (o : HOp) (hc0 : 0 ≤ x.client) (hc8 : x.client < 8) (hbg : s.busy[x.client.toNat]? = some b) (hb0 : b ≠ 0) (hog : s.all[(b - 1).toNat]? = some o) (hz : x.op = zOp) (c1 c2 c3 : Bool) (h1 : (!([0, 1, 8, 9] : List Int).any (fun y => decide (x.err = y))) = c1) (h2 : (!decide (x.value = zBk)) = c2) (h3 : (!decide (o.op.kind = 1)) = c3) (h4 : (c1 || c2 && (c3 || !decide (x.err = 0))) = false) :
    TakeIs s x ⟨s.busy.set x.client.toNat 0, s.number, s.era, s.read + 1, s.all.set (b - 1).toNat { o with returned := s.read, value := x.value, err := x.err }⟩ true := by
  have hr := hs.read
  have ha := hs.all
  have hb := hs.busy b (List.mem_of_getElem? hbg)
  have d1 : decide (x.kind = 1) = false := decide_eq_false (by omega)
  have d2 : decide (x.kind = 2) = true := decide_eq_true k2
  have c0 : decide (0 ≤ x.client) = true := decide_eq_true hc0
  have c8 : decide (x.client < 8) = true := decide_eq_true hc8
  have n8 : (!decide (x.client < 8)) = false := by rw [c8]; rfl
  have b0 : decide (b = 0) = false := decide_eq_false hb0
  have z0 : (!decide (x.op = zOp)) = false := by rw [decide_eq_true hz]; rfl
  have hw : IntKind.i64.wrap (s.read + 1) = s.read + 1 := wrap_i64 (by omega) (by omega)
  have hwb : IntKind.i64.wrap (b - 1) = b - 1 := wrap_i64 (by omega) (by omega)
  have hlt : b - 1 < (s.all.length : Int) := by omega
  have hge : 0 ≤ b - 1 := by omega
  have hjl := (List.getElem?_eq_some_iff.1 hog).1
  have hog1 : (s.all.set (b - 1).toNat { o with returned := s.read })[(b - 1).toNat]? = some { o with returned := s.read } := List.getElem?_set_self hjl
  have hog2 : (s.all.set (b - 1).toNat { o with returned := s.read, value := x.value })[(b - 1).toNat]? = some { o with returned := s.read, value := x.value } := List.getElem?_set_self hjl
  simp only [TakeIs, rdRow, List.length_set]
  refine fnIs_of tab_ok Tryz.func71 rfl rfl rfl ?_
  cases c1 with
  | true => cases h4
  | false =>
    cases c2 with
    | false =>
      refine sR ?_;refine rN ?_;refine rC ?_;refine nR ?_;iterate 3 refine rC ?_
      refine rQ iM ?_;refine rC ?_;refine nR ?_;iterate 3 refine rC ?_
      refine rQ iM ?_;refine rQ iD ?_;iterate 2 refine rC ?_
      refine reg_store (store_row tab_ok rfl rfl rfl ⟨_, ⟨_, ⟨rfl, rfl, rfl⟩, rfl⟩, rfl⟩ rfl) ?_;refine nR ?_;refine rC ?_;refine rQ iB ?_;iterate 2 refine rC ?_
      refine rO ?_;refine rC ?_;refine rO ?_;refine rQ iB ?_;refine rO ?_;refine rC ?_;refine rQ iT ?_;refine rC ?_;refine nR ?_;refine rC ?_;refine rQ iB ?_;refine rQ (build_array tab_ok rfl rfl rfl) ?_
      refine rQ (eql_data rfl rfl rfl rfl (by kernel_rfl) (by decide) (block_eq x.value zBk)) ?_;refine rC ?_;refine nQ ?_;refine wc_block ?_;refine sR ?_;refine rC ?_
      refine rQ iB ?_;iterate 2 refine rC ?_
      refine nS ?_;refine wF ?_;refine sR ?_;refine rC ?_;refine rQ iB ?_;iterate 2 refine rC ?_
      refine nS ?_;refine wT ?_;iterate 2 refine wc_seq ?_
      refine wc_draw (by kernel_rfl) ?_;refine dC [6] [] ?_;refine dC [123] [] ?_;refine dC [124] [] ?_;refine dreg_onq [125, 0] [] rfl rfl (by assumption) rfl (step_C tab_ok (fun K hk => hk)) ?_
      refine dreg_onq [125, 3] [] rfl rfl (by assumption) rfl (step_C tab_ok (fun K hk => hk)) ?_;refine dreg_onq [125, 127] [64] rfl rfl (by assumption) rfl (load_box tab_ok rfl rfl ⟨_, rfl, rfl⟩ rfl) ?_
      refine dreg_onq [125, 126] [] rfl rfl (by assumption) rfl (step_C tab_ok (fun K hk => hk)) ?_;refine dreg_onq [125, 129] [] rfl rfl (by assumption) rfl (step_C tab_ok (fun K hk => hk)) ?_
      refine dreg_onq [125, 130, 128] [] rfl rfl (by assumption) rfl (step_C tab_ok (fun K hk => ⟨by omega, by omega, hk⟩)) ?_;refine dreg_onq [125, 131] [0] rfl rfl (by assumption) rfl (load_box tab_ok rfl rfl ⟨_, ⟨rfl, _, hbg, rfl⟩, rfl⟩ rfl) ?_
      refine dreg_onq [125, 132] [] rfl rfl (by assumption) rfl (step_C tab_ok (fun K hk => hk)) ?_;refine dQ [125, 133] [] iF ?_;refine dC [134] [] ?_;refine dreg_onq [135, 3] [] rfl rfl (by assumption) rfl (step_C tab_ok (fun K hk => hk)) ?_
      refine dreg_onq [135, 136] [64] rfl rfl (by assumption) rfl (load_box tab_ok rfl rfl ⟨_, rfl, rfl⟩ rfl) ?_;refine dreg_onq [135, 137] [] rfl rfl (by assumption) rfl (call_r (blank_is x.op) rfl rfl (arg_e arg_nil) (.inl rfl) (fun _ => rfl)) ?_
      refine dreg_onq [135, 138] [] rfl rfl (by assumption) rfl (step_C tab_ok (fun K hk => hk)) ?_;refine dQ [135, 139] [] iF ?_;refine dreg_end (by kernel_rfl) ?_;refine seq_n ?_
      refine wF ?_;refine kS ?_;refine wc_seq ?_;refine wc_draw (by kernel_rfl) ?_;refine dC [0] [] ?_;refine dC [141] [] ?_;refine dC [142] [] ?_;refine dQ [143] [0] iM ?_
      refine dC [0] [] ?_;refine dC [3] [] ?_;refine dQ [146] [64] iB ?_;refine dC [145] [] ?_;refine dC [148] [] ?_;refine dQ [149, 147] [] (step_C tab_ok (fun K hk => ⟨by omega, by omega, hk⟩)) ?_
      refine dQ [150] [0] (load_box tab_ok rfl rfl ⟨_, ⟨rfl, _, hbg, rfl⟩, rfl⟩ rfl) ?_;refine dQ [151] [] (sub_int tab_ok rfl rfl hwb) ?_;refine dQ [144, 152] [] (index_own tab_ok rfl rfl rfl rfl rfl (by omega) (by omega)) ?_
      refine dC [153] [] ?_;refine dreg_end (by kernel_rfl) ?_;refine seq_n ?_;refine sR ?_;refine rQ (StepIs.frozen (build_slice (s := 1) tab_ok rfl rfl rfl rfl rfl rfl rfl rfl) (Frz.litsN (enc := i6) [0, 1, 8, 9] rfl (fun _ _ => rfl))) ?_
      refine rC ?_;refine rQ iB ?_;refine rQ (call_r (cte_is x.err [0, 1, 8, 9] (by decide)) rfl rfl (arg_e (arg_e arg_nil)) (.inl rfl) (fun _ => rfl)) ?_;refine rC ?_
      refine nQ ?_;refine sR ?_;iterate 3 refine rC ?_
      refine rO ?_;refine rC ?_;refine rO ?_;refine rC ?_;refine rO ?_;refine rC ?_;iterate 7 refine rS ?_
      iterate 3 refine rU ?_
      refine rS ?_;refine rO ?_;iterate 2 refine rQ iF ?_
      refine nS ?_;refine wG ?_;refine kS ?_;refine wc_seq ?_;refine wc_draw (by kernel_rfl) ?_;iterate 3 refine dC [8] [] ?_
      refine dC [5] [] ?_;refine dC [3] [] ?_;refine dQ [181] [64] iB ?_;refine dC [3] [] ?_;refine dQ [183] [64] iB ?_;refine dC [177] [] ?_;refine dC [185] [] ?_;refine dreg_s [186, 180] [1] (store_row (row' := opRow (s.all.set (b - 1).toNat { o with returned := s.read })) tab_ok rfl rfl rfl ⟨rfl, o, { o with returned := s.read }, hog, ⟨_, ⟨rfl, rfl, rfl⟩, rfl⟩, rfl⟩ rfl) ?_
      refine dC [178] [] ?_;refine dC [187] [] ?_;refine dreg_s [188, 182] [1] (store_row (row' := opRow (s.all.set (b - 1).toNat { o with returned := s.read, value := x.value })) tab_ok rfl rfl rfl ⟨rfl, _, { o with returned := s.read, value := x.value }, hog1, ⟨_, ⟨rfl, rfl, rfl⟩, rfl⟩, (by rw [List.set_set])⟩ rfl) ?_
      refine dC [179] [] ?_;refine dC [189] [] ?_;refine dreg_s [190, 184] [1] (store_row (row' := opRow (s.all.set (b - 1).toNat { o with returned := s.read, value := x.value, err := x.err })) tab_ok rfl rfl rfl ⟨rfl, _, { o with returned := s.read, value := x.value, err := x.err }, hog2, ⟨_, ⟨rfl, rfl, rfl⟩, rfl⟩, (by rw [List.set_set])⟩ rfl) ?_
      refine dreg_end (by kernel_rfl) ?_;refine seq_n ?_;refine wc_draw (by kernel_rfl) ?_;refine dC [0] [] ?_;refine dC [3] [] ?_;refine dQ [192] [64] iB ?_;refine dC [191] [] ?_
      refine dC [194] [] ?_;refine dQ [195, 193] [] (step_C tab_ok (fun K hk => ⟨by omega, by omega, hk⟩)) ?_;refine dreg_s [196] [0] (store_row tab_ok rfl rfl rfl ⟨_, ⟨_, ⟨_, ⟨rfl, _, 0, hbg, ⟨rfl, rfl, rfl⟩, rfl⟩, rfl⟩, rfl⟩, rfl⟩ rfl) ?_
      refine dreg_end (by kernel_rfl) ?_;refine blk_n ?_;refine seq_n ?_;refine sR ?_;refine rC ?_;refine nS ?_;refine wc_ret ?_
      exact ⟨trivial, [(64, some 1)], .of rfl rfl rfl rfl rfl ⟨⟨_, rfl, AVLe.of_eq rfl⟩, rfl, trivial⟩ ⟨⟨rfl, rfl, _, rfl, .refl _⟩, ⟨rfl, rfl, _, rfl, .refl _⟩, trivial⟩⟩
    | true =>
      cases c3 with
      | true => cases h4
      | false =>
        have e0 : (!decide (x.err = 0)) = false := h4
        refine sR ?_;refine rN ?_;refine rC ?_;refine nR ?_;iterate 3 refine rC ?_
        refine rQ iM ?_;refine rC ?_;refine nR ?_;iterate 3 refine rC ?_
        refine rQ iM ?_;refine rQ iD ?_;iterate 2 refine rC ?_
        refine reg_store (store_row tab_ok rfl rfl rfl ⟨_, ⟨_, ⟨rfl, rfl, rfl⟩, rfl⟩, rfl⟩ rfl) ?_;refine nR ?_;refine rC ?_;refine rQ iB ?_;iterate 2 refine rC ?_
        refine rO ?_;refine rC ?_;refine rO ?_;refine rQ iB ?_;refine rO ?_;refine rC ?_;refine rQ iT ?_;refine rC ?_;refine nR ?_;refine rC ?_;refine rQ iB ?_;refine rQ (build_array tab_ok rfl rfl rfl) ?_
        refine rQ (eql_data rfl rfl rfl rfl (by kernel_rfl) (by decide) (block_eq x.value zBk)) ?_;refine rC ?_;refine nQ ?_;refine wc_block ?_;refine sR ?_;refine rC ?_
        refine rQ iB ?_;iterate 2 refine rC ?_
        refine nS ?_;refine wF ?_;refine sR ?_;refine rC ?_;refine rQ iB ?_;iterate 2 refine rC ?_
        refine nS ?_;refine wT ?_;iterate 2 refine wc_seq ?_
        refine wc_draw (by kernel_rfl) ?_;refine dC [6] [] ?_;refine dC [123] [] ?_;refine dC [124] [] ?_;refine dreg_onq [125, 0] [] rfl rfl (by assumption) rfl (step_C tab_ok (fun K hk => hk)) ?_
        refine dreg_onq [125, 3] [] rfl rfl (by assumption) rfl (step_C tab_ok (fun K hk => hk)) ?_;refine dreg_onq [125, 127] [64] rfl rfl (by assumption) rfl (load_box tab_ok rfl rfl ⟨_, rfl, rfl⟩ rfl) ?_
        refine dreg_onq [125, 126] [] rfl rfl (by assumption) rfl (step_C tab_ok (fun K hk => hk)) ?_;refine dreg_onq [125, 129] [] rfl rfl (by assumption) rfl (step_C tab_ok (fun K hk => hk)) ?_
        refine dreg_onq [125, 130, 128] [] rfl rfl (by assumption) rfl (step_C tab_ok (fun K hk => ⟨by omega, by omega, hk⟩)) ?_;refine dreg_onq [125, 131] [0] rfl rfl (by assumption) rfl (load_box tab_ok rfl rfl ⟨_, ⟨rfl, _, hbg, rfl⟩, rfl⟩ rfl) ?_
        refine dreg_onq [125, 132] [] rfl rfl (by assumption) rfl (step_C tab_ok (fun K hk => hk)) ?_;refine dQ [125, 133] [] iF ?_;refine dC [134] [] ?_;refine dreg_onq [135, 3] [] rfl rfl (by assumption) rfl (step_C tab_ok (fun K hk => hk)) ?_
        refine dreg_onq [135, 136] [64] rfl rfl (by assumption) rfl (load_box tab_ok rfl rfl ⟨_, rfl, rfl⟩ rfl) ?_;refine dreg_onq [135, 137] [] rfl rfl (by assumption) rfl (call_r (blank_is x.op) rfl rfl (arg_e arg_nil) (.inl rfl) (fun _ => rfl)) ?_
        refine dreg_onq [135, 138] [] rfl rfl (by assumption) rfl (step_C tab_ok (fun K hk => hk)) ?_;refine dQ [135, 139] [] iF ?_;refine dreg_end (by kernel_rfl) ?_;refine seq_n ?_
        refine wF ?_;refine kS ?_;refine wc_seq ?_;refine wc_draw (by kernel_rfl) ?_;refine dC [0] [] ?_;refine dC [141] [] ?_;refine dC [142] [] ?_;refine dQ [143] [0] iM ?_
        refine dC [0] [] ?_;refine dC [3] [] ?_;refine dQ [146] [64] iB ?_;refine dC [145] [] ?_;refine dC [148] [] ?_;refine dQ [149, 147] [] (step_C tab_ok (fun K hk => ⟨by omega, by omega, hk⟩)) ?_
        refine dQ [150] [0] (load_box tab_ok rfl rfl ⟨_, ⟨rfl, _, hbg, rfl⟩, rfl⟩ rfl) ?_;refine dQ [151] [] (sub_int tab_ok rfl rfl hwb) ?_;refine dQ [144, 152] [] (index_own tab_ok rfl rfl rfl rfl rfl (by omega) (by omega)) ?_
        refine dC [153] [] ?_;refine dreg_end (by kernel_rfl) ?_;refine seq_n ?_;refine sR ?_;refine rQ (StepIs.frozen (build_slice (s := 1) tab_ok rfl rfl rfl rfl rfl rfl rfl rfl) (Frz.litsN (enc := i6) [0, 1, 8, 9] rfl (fun _ _ => rfl))) ?_
        refine rC ?_;refine rQ iB ?_;refine rQ (call_r (cte_is x.err [0, 1, 8, 9] (by decide)) rfl rfl (arg_e (arg_e arg_nil)) (.inl rfl) (fun _ => rfl)) ?_;refine rC ?_
        refine nQ ?_;refine sR ?_;iterate 3 refine rC ?_
        refine rO ?_;refine rC ?_;refine rO ?_;refine rC ?_;refine rO ?_;refine rC ?_;refine rO ?_;refine rC ?_;refine rO ?_;refine rC ?_;refine rO ?_;refine rC ?_;refine rO ?_
        refine rC ?_;refine rO ?_;refine rQ (load_row tab_ok rfl rfl ⟨rfl, o, hog, _, rfl, rfl⟩ rfl) ?_;refine rO ?_;refine rC ?_;refine rO ?_;refine rC ?_;refine rO ?_
        refine rC ?_;refine rO ?_;refine rQ iB ?_;refine rO ?_;refine rC ?_;refine rO ?_;refine rQ iF ?_;refine rO ?_;refine rQ iT ?_;refine rQ iF ?_;refine nS ?_;refine wF ?_
        refine kS ?_;refine wc_seq ?_;refine wc_draw (by kernel_rfl) ?_;iterate 3 refine dC [8] [] ?_
        refine dC [5] [] ?_;refine dC [3] [] ?_;refine dQ [181] [64] iB ?_;refine dC [3] [] ?_;refine dQ [183] [64] iB ?_;refine dC [177] [] ?_;refine dC [185] [] ?_;refine dreg_s [186, 180] [1] (store_row (row' := opRow (s.all.set (b - 1).toNat { o with returned := s.read })) tab_ok rfl rfl rfl ⟨rfl, o, { o with returned := s.read }, hog, ⟨_, ⟨rfl, rfl, rfl⟩, rfl⟩, rfl⟩ rfl) ?_
        refine dC [178] [] ?_;refine dC [187] [] ?_;refine dreg_s [188, 182] [1] (store_row (row' := opRow (s.all.set (b - 1).toNat { o with returned := s.read, value := x.value })) tab_ok rfl rfl rfl ⟨rfl, _, { o with returned := s.read, value := x.value }, hog1, ⟨_, ⟨rfl, rfl, rfl⟩, rfl⟩, (by rw [List.set_set])⟩ rfl) ?_
        refine dC [179] [] ?_;refine dC [189] [] ?_;refine dreg_s [190, 184] [1] (store_row (row' := opRow (s.all.set (b - 1).toNat { o with returned := s.read, value := x.value, err := x.err })) tab_ok rfl rfl rfl ⟨rfl, _, { o with returned := s.read, value := x.value, err := x.err }, hog2, ⟨_, ⟨rfl, rfl, rfl⟩, rfl⟩, (by rw [List.set_set])⟩ rfl) ?_
        refine dreg_end (by kernel_rfl) ?_;refine seq_n ?_;refine wc_draw (by kernel_rfl) ?_;refine dC [0] [] ?_;refine dC [3] [] ?_;refine dQ [192] [64] iB ?_;refine dC [191] [] ?_
        refine dC [194] [] ?_;refine dQ [195, 193] [] (step_C tab_ok (fun K hk => ⟨by omega, by omega, hk⟩)) ?_;refine dreg_s [196] [0] (store_row tab_ok rfl rfl rfl ⟨_, ⟨_, ⟨_, ⟨rfl, _, 0, hbg, ⟨rfl, rfl, rfl⟩, rfl⟩, rfl⟩, rfl⟩, rfl⟩ rfl) ?_
        refine dreg_end (by kernel_rfl) ?_;refine blk_n ?_;refine seq_n ?_;refine sR ?_;refine rC ?_;refine nS ?_;refine wc_ret ?_
        exact ⟨trivial, [(64, some 1)], .of rfl rfl rfl rfl rfl ⟨⟨_, rfl, AVLe.of_eq rfl⟩, rfl, trivial⟩ ⟨⟨rfl, rfl, _, rfl, .refl _⟩, ⟨rfl, rfl, _, rfl, .refl _⟩, trivial⟩⟩
theorem take_ret_no (s : RdS) (x : HEv) (n : Nat) (hs : s.Ok n) (hn : n ≤ 1000000) (k2 : x.kind = 2) (hno : ret1 s x = false) : TakeIs s x { s with read := s.read + 1 } false := by
  have hr := hs.read
  have ha := hs.all
  have d1 : decide (x.kind = 1) = false := decide_eq_false (by omega)
  have d2 : decide (x.kind = 2) = true := decide_eq_true k2
  have hw : IntKind.i64.wrap (s.read + 1) = s.read + 1 := wrap_i64 (by omega) (by omega)
  refine fnIs_of tab_ok Tryz.func71 rfl rfl rfl ?_
  by_cases hc0 : 0 ≤ x.client
  · have c0 : decide (0 ≤ x.client) = true := decide_eq_true hc0
    by_cases hc8 : x.client < 8
    · have c8 : decide (x.client < 8) = true := decide_eq_true hc8
      have n8 : (!decide (x.client < 8)) = false := by rw [c8]; rfl
      obtain ⟨b, hbg⟩ : ∃ b, s.busy[x.client.toNat]? = some b := ⟨_, List.getElem?_eq_getElem (by rw [hs.blen]; omega)⟩
      have hb := hs.busy b (List.mem_of_getElem? hbg)
      by_cases hb0 : b = 0
      · have b0 : decide (b = 0) = true := decide_eq_true hb0
        refine sR ?_;refine rN ?_;refine rC ?_;refine nR ?_;iterate 3 refine rC ?_
        refine rQ iM ?_;refine rC ?_;refine nR ?_;iterate 3 refine rC ?_
        refine rQ iM ?_;refine rQ iD ?_;iterate 2 refine rC ?_
        refine reg_store (store_row tab_ok rfl rfl rfl ⟨_, ⟨_, ⟨rfl, rfl, rfl⟩, rfl⟩, rfl⟩ rfl) ?_;refine nR ?_;refine rC ?_;refine rQ iB ?_;iterate 2 refine rC ?_
        refine rO ?_;refine rC ?_;refine rO ?_;refine rQ iB ?_;refine rO ?_;refine rC ?_;refine rQ iT ?_;refine rC ?_;refine nR ?_;refine rC ?_;refine rQ iB ?_;refine rQ (build_array tab_ok rfl rfl rfl) ?_
        refine rQ (eql_data rfl rfl rfl rfl (by kernel_rfl) (by decide) (block_eq x.value zBk)) ?_;refine rC ?_;refine nQ ?_;refine wc_block ?_;refine sR ?_;refine rC ?_
        refine rQ iB ?_;iterate 2 refine rC ?_
        refine nS ?_;refine wF ?_;refine sR ?_;refine rC ?_;refine rQ iB ?_;iterate 2 refine rC ?_
        refine nS ?_;refine wT ?_;iterate 2 refine wc_seq ?_
        refine wc_draw (by kernel_rfl) ?_;refine dC [6] [] ?_;refine dC [123] [] ?_;refine dC [124] [] ?_;refine dreg_onq [125, 0] [] rfl rfl (by assumption) rfl (step_C tab_ok (fun K hk => hk)) ?_
        refine dreg_onq [125, 3] [] rfl rfl (by assumption) rfl (step_C tab_ok (fun K hk => hk)) ?_;refine dreg_onq [125, 127] [64] rfl rfl (by assumption) rfl (load_box tab_ok rfl rfl ⟨_, rfl, rfl⟩ rfl) ?_
        refine dreg_onq [125, 126] [] rfl rfl (by assumption) rfl (step_C tab_ok (fun K hk => hk)) ?_;refine dreg_onq [125, 129] [] rfl rfl (by assumption) rfl (step_C tab_ok (fun K hk => hk)) ?_
        refine dreg_onq [125, 130, 128] [] rfl rfl (by assumption) rfl (step_C tab_ok (fun K hk => ⟨by omega, by omega, hk⟩)) ?_;refine dreg_onq [125, 131] [0] rfl rfl (by assumption) rfl (load_box tab_ok rfl rfl ⟨_, ⟨rfl, _, hbg, rfl⟩, rfl⟩ rfl) ?_
        refine dreg_onq [125, 132] [] rfl rfl (by assumption) rfl (step_C tab_ok (fun K hk => hk)) ?_;refine dQ [125, 133] [] iF ?_;refine dC [134] [] ?_;refine dreg_offq [135, 3] rfl rfl (by assumption) rfl ?_
        refine dreg_offq [135, 136] rfl rfl (by assumption) rfl ?_;refine dreg_offq [135, 137] rfl rfl (by assumption) rfl ?_;refine dreg_offq [135, 138] rfl rfl (by assumption) rfl ?_
        refine dQ [135, 139] [] iT ?_;refine dreg_end (by kernel_rfl) ?_;refine seq_n ?_;refine wV ?_;refine sR ?_;refine rC ?_;refine nS ?_;refine wc_ret ?_;refine seq_r ?_
        refine blk_r ?_;refine seq_r ?_
        exact ⟨trivial, [(64, some 1)], .of rfl rfl rfl rfl rfl ⟨⟨_, rfl, AVLe.of_eq rfl⟩, rfl, trivial⟩ ⟨⟨rfl, rfl, _, rfl, .refl _⟩, ⟨rfl, rfl, _, rfl, .refl _⟩, trivial⟩⟩
      · have b0 : decide (b = 0) = false := decide_eq_false hb0
        by_cases hz : x.op = zOp
        · have z0 : (!decide (x.op = zOp)) = false := by rw [decide_eq_true hz]; rfl
          have hwb : IntKind.i64.wrap (b - 1) = b - 1 := wrap_i64 (by omega) (by omega)
          have hlt : b - 1 < (s.all.length : Int) := by omega
          have hge : 0 ≤ b - 1 := by omega
          obtain ⟨o, hog⟩ : ∃ o, s.all[(b - 1).toNat]? = some o := ⟨_, List.getElem?_eq_getElem (by omega)⟩
          obtain ⟨c1, h1⟩ : ∃ c, (!([0, 1, 8, 9] : List Int).any (fun y => decide (x.err = y))) = c := ⟨_, rfl⟩
          obtain ⟨c2, h2⟩ : ∃ c, (!decide (x.value = zBk)) = c := ⟨_, rfl⟩
          obtain ⟨c3, h3⟩ : ∃ c, (!decide (o.op.kind = 1)) = c := ⟨_, rfl⟩
          obtain ⟨c4, h4⟩ : ∃ c, (!decide (x.err = 0)) = c := ⟨_, rfl⟩
          have hc : (c1 || c2 && (c3 || c4)) = true := by
            have hkn : kn4 x.err = !c1 := by rw [← h1, ← kn4_any, Bool.not_not]
            have hv2 : decide (x.value = zBk) = !c2 := by rw [← h2, Bool.not_not]
            have hk3 : decide (o.op.kind = 1) = !c3 := by rw [← h3, Bool.not_not]
            have he4 : decide (x.err = 0) = !c4 := by rw [← h4, Bool.not_not]
            have hb' : decide (some b = some (0 : Int)) = false := decide_eq_false (by simpa using hb0)
            have ho : opOf s x = some o := by rw [opOf, hbg]; exact hog
            rw [ret1, c0, c8, hbg, hb', decide_eq_true hz, hkn, hv2, ho] at hno
            simp only [hk3, he4] at hno
            revert hno
            cases c1 <;> cases c2 <;> cases c3 <;> cases c4 <;> decide
          cases c1 with
          | true =>
            refine sR ?_;refine rN ?_;refine rC ?_;refine nR ?_;iterate 3 refine rC ?_
            refine rQ iM ?_;refine rC ?_;refine nR ?_;iterate 3 refine rC ?_
            refine rQ iM ?_;refine rQ iD ?_;iterate 2 refine rC ?_
            refine reg_store (store_row tab_ok rfl rfl rfl ⟨_, ⟨_, ⟨rfl, rfl, rfl⟩, rfl⟩, rfl⟩ rfl) ?_;refine nR ?_;refine rC ?_;refine rQ iB ?_;iterate 2 refine rC ?_
            refine rO ?_;refine rC ?_;refine rO ?_;refine rQ iB ?_;refine rO ?_;refine rC ?_;refine rQ iT ?_;refine rC ?_;refine nR ?_;refine rC ?_;refine rQ iB ?_;refine rQ (build_array tab_ok rfl rfl rfl) ?_
            refine rQ (eql_data rfl rfl rfl rfl (by kernel_rfl) (by decide) (block_eq x.value zBk)) ?_;refine rC ?_;refine nQ ?_;refine wc_block ?_;refine sR ?_;refine rC ?_
            refine rQ iB ?_;iterate 2 refine rC ?_
            refine nS ?_;refine wF ?_;refine sR ?_;refine rC ?_;refine rQ iB ?_;iterate 2 refine rC ?_
            refine nS ?_;refine wT ?_;iterate 2 refine wc_seq ?_
            refine wc_draw (by kernel_rfl) ?_;refine dC [6] [] ?_;refine dC [123] [] ?_;refine dC [124] [] ?_;refine dreg_onq [125, 0] [] rfl rfl (by assumption) rfl (step_C tab_ok (fun K hk => hk)) ?_
            refine dreg_onq [125, 3] [] rfl rfl (by assumption) rfl (step_C tab_ok (fun K hk => hk)) ?_;refine dreg_onq [125, 127] [64] rfl rfl (by assumption) rfl (load_box tab_ok rfl rfl ⟨_, rfl, rfl⟩ rfl) ?_
            refine dreg_onq [125, 126] [] rfl rfl (by assumption) rfl (step_C tab_ok (fun K hk => hk)) ?_;refine dreg_onq [125, 129] [] rfl rfl (by assumption) rfl (step_C tab_ok (fun K hk => hk)) ?_
            refine dreg_onq [125, 130, 128] [] rfl rfl (by assumption) rfl (step_C tab_ok (fun K hk => ⟨by omega, by omega, hk⟩)) ?_;refine dreg_onq [125, 131] [0] rfl rfl (by assumption) rfl (load_box tab_ok rfl rfl ⟨_, ⟨rfl, _, hbg, rfl⟩, rfl⟩ rfl) ?_
            refine dreg_onq [125, 132] [] rfl rfl (by assumption) rfl (step_C tab_ok (fun K hk => hk)) ?_;refine dQ [125, 133] [] iF ?_;refine dC [134] [] ?_;refine dreg_onq [135, 3] [] rfl rfl (by assumption) rfl (step_C tab_ok (fun K hk => hk)) ?_
            refine dreg_onq [135, 136] [64] rfl rfl (by assumption) rfl (load_box tab_ok rfl rfl ⟨_, rfl, rfl⟩ rfl) ?_;refine dreg_onq [135, 137] [] rfl rfl (by assumption) rfl (call_r (blank_is x.op) rfl rfl (arg_e arg_nil) (.inl rfl) (fun _ => rfl)) ?_
            refine dreg_onq [135, 138] [] rfl rfl (by assumption) rfl (step_C tab_ok (fun K hk => hk)) ?_;refine dQ [135, 139] [] iF ?_;refine dreg_end (by kernel_rfl) ?_;refine seq_n ?_
            refine wF ?_;refine kS ?_;refine wc_seq ?_;refine wc_draw (by kernel_rfl) ?_;refine dC [0] [] ?_;refine dC [141] [] ?_;refine dC [142] [] ?_;refine dQ [143] [0] iM ?_
            refine dC [0] [] ?_;refine dC [3] [] ?_;refine dQ [146] [64] iB ?_;refine dC [145] [] ?_;refine dC [148] [] ?_;refine dQ [149, 147] [] (step_C tab_ok (fun K hk => ⟨by omega, by omega, hk⟩)) ?_
            refine dQ [150] [0] (load_box tab_ok rfl rfl ⟨_, ⟨rfl, _, hbg, rfl⟩, rfl⟩ rfl) ?_;refine dQ [151] [] (sub_int tab_ok rfl rfl hwb) ?_;refine dQ [144, 152] [] (index_own tab_ok rfl rfl rfl rfl rfl (by omega) (by omega)) ?_
            refine dC [153] [] ?_;refine dreg_end (by kernel_rfl) ?_;refine seq_n ?_;refine sR ?_;refine rQ (StepIs.frozen (build_slice (s := 1) tab_ok rfl rfl rfl rfl rfl rfl rfl rfl) (Frz.litsN (enc := i6) [0, 1, 8, 9] rfl (fun _ _ => rfl))) ?_
            refine rC ?_;refine rQ iB ?_;refine rQ (call_r (cte_is x.err [0, 1, 8, 9] (by decide)) rfl rfl (arg_e (arg_e arg_nil)) (.inl rfl) (fun _ => rfl)) ?_;refine rC ?_
            refine nQ ?_;refine sR ?_;iterate 3 refine rC ?_
            iterate 3 refine rS ?_
            iterate 11 refine rU ?_
            refine rS ?_;refine rQ iT ?_;refine nS ?_;refine wV ?_;refine sR ?_;refine rC ?_;refine nS ?_;refine wc_ret ?_;refine seq_r ?_;refine blk_r ?_;refine seq_r ?_
            exact ⟨trivial, [(64, some 1)], .of rfl rfl rfl rfl rfl ⟨⟨_, rfl, AVLe.of_eq rfl⟩, rfl, trivial⟩ ⟨⟨rfl, rfl, _, rfl, .refl _⟩, ⟨rfl, rfl, _, rfl, .refl _⟩, trivial⟩⟩
          | false =>
            cases c2 with
            | false => cases hc
            | true =>
              cases c3 with
              | true =>
                refine sR ?_;refine rN ?_;refine rC ?_;refine nR ?_;iterate 3 refine rC ?_
                refine rQ iM ?_;refine rC ?_;refine nR ?_;iterate 3 refine rC ?_
                refine rQ iM ?_;refine rQ iD ?_;iterate 2 refine rC ?_
                refine reg_store (store_row tab_ok rfl rfl rfl ⟨_, ⟨_, ⟨rfl, rfl, rfl⟩, rfl⟩, rfl⟩ rfl) ?_;refine nR ?_;refine rC ?_;refine rQ iB ?_;iterate 2 refine rC ?_
                refine rO ?_;refine rC ?_;refine rO ?_;refine rQ iB ?_;refine rO ?_;refine rC ?_;refine rQ iT ?_;refine rC ?_;refine nR ?_;refine rC ?_;refine rQ iB ?_;refine rQ (build_array tab_ok rfl rfl rfl) ?_
                refine rQ (eql_data rfl rfl rfl rfl (by kernel_rfl) (by decide) (block_eq x.value zBk)) ?_;refine rC ?_;refine nQ ?_;refine wc_block ?_;refine sR ?_;refine rC ?_
                refine rQ iB ?_;iterate 2 refine rC ?_
                refine nS ?_;refine wF ?_;refine sR ?_;refine rC ?_;refine rQ iB ?_;iterate 2 refine rC ?_
                refine nS ?_;refine wT ?_;iterate 2 refine wc_seq ?_
                refine wc_draw (by kernel_rfl) ?_;refine dC [6] [] ?_;refine dC [123] [] ?_;refine dC [124] [] ?_;refine dreg_onq [125, 0] [] rfl rfl (by assumption) rfl (step_C tab_ok (fun K hk => hk)) ?_
                refine dreg_onq [125, 3] [] rfl rfl (by assumption) rfl (step_C tab_ok (fun K hk => hk)) ?_;refine dreg_onq [125, 127] [64] rfl rfl (by assumption) rfl (load_box tab_ok rfl rfl ⟨_, rfl, rfl⟩ rfl) ?_
                refine dreg_onq [125, 126] [] rfl rfl (by assumption) rfl (step_C tab_ok (fun K hk => hk)) ?_;refine dreg_onq [125, 129] [] rfl rfl (by assumption) rfl (step_C tab_ok (fun K hk => hk)) ?_
                refine dreg_onq [125, 130, 128] [] rfl rfl (by assumption) rfl (step_C tab_ok (fun K hk => ⟨by omega, by omega, hk⟩)) ?_;refine dreg_onq [125, 131] [0] rfl rfl (by assumption) rfl (load_box tab_ok rfl rfl ⟨_, ⟨rfl, _, hbg, rfl⟩, rfl⟩ rfl) ?_
                refine dreg_onq [125, 132] [] rfl rfl (by assumption) rfl (step_C tab_ok (fun K hk => hk)) ?_;refine dQ [125, 133] [] iF ?_;refine dC [134] [] ?_;refine dreg_onq [135, 3] [] rfl rfl (by assumption) rfl (step_C tab_ok (fun K hk => hk)) ?_
                refine dreg_onq [135, 136] [64] rfl rfl (by assumption) rfl (load_box tab_ok rfl rfl ⟨_, rfl, rfl⟩ rfl) ?_;refine dreg_onq [135, 137] [] rfl rfl (by assumption) rfl (call_r (blank_is x.op) rfl rfl (arg_e arg_nil) (.inl rfl) (fun _ => rfl)) ?_
                refine dreg_onq [135, 138] [] rfl rfl (by assumption) rfl (step_C tab_ok (fun K hk => hk)) ?_;refine dQ [135, 139] [] iF ?_;refine dreg_end (by kernel_rfl) ?_;refine seq_n ?_
                refine wF ?_;refine kS ?_;refine wc_seq ?_;refine wc_draw (by kernel_rfl) ?_;refine dC [0] [] ?_;refine dC [141] [] ?_;refine dC [142] [] ?_;refine dQ [143] [0] iM ?_
                refine dC [0] [] ?_;refine dC [3] [] ?_;refine dQ [146] [64] iB ?_;refine dC [145] [] ?_;refine dC [148] [] ?_;refine dQ [149, 147] [] (step_C tab_ok (fun K hk => ⟨by omega, by omega, hk⟩)) ?_
                refine dQ [150] [0] (load_box tab_ok rfl rfl ⟨_, ⟨rfl, _, hbg, rfl⟩, rfl⟩ rfl) ?_;refine dQ [151] [] (sub_int tab_ok rfl rfl hwb) ?_;refine dQ [144, 152] [] (index_own tab_ok rfl rfl rfl rfl rfl (by omega) (by omega)) ?_
                refine dC [153] [] ?_;refine dreg_end (by kernel_rfl) ?_;refine seq_n ?_;refine sR ?_;refine rQ (StepIs.frozen (build_slice (s := 1) tab_ok rfl rfl rfl rfl rfl rfl rfl rfl) (Frz.litsN (enc := i6) [0, 1, 8, 9] rfl (fun _ _ => rfl))) ?_
                refine rC ?_;refine rQ iB ?_;refine rQ (call_r (cte_is x.err [0, 1, 8, 9] (by decide)) rfl rfl (arg_e (arg_e arg_nil)) (.inl rfl) (fun _ => rfl)) ?_;refine rC ?_
                refine nQ ?_;refine sR ?_;iterate 3 refine rC ?_
                refine rO ?_;refine rC ?_;refine rO ?_;refine rC ?_;refine rO ?_;refine rC ?_;refine rO ?_;refine rC ?_;refine rO ?_;refine rC ?_;refine rO ?_;refine rC ?_;refine rO ?_
                refine rC ?_;refine rO ?_;refine rQ (load_row tab_ok rfl rfl ⟨rfl, o, hog, _, rfl, rfl⟩ rfl) ?_;refine rO ?_;refine rC ?_;refine rO ?_;refine rC ?_;iterate 3 refine rS ?_
                refine rO ?_;refine rQ iT ?_;refine rO ?_;refine rQ iT ?_;refine rQ iF ?_;refine nS ?_;refine wV ?_;refine sR ?_;refine rC ?_;refine nS ?_;refine wc_ret ?_;refine seq_r ?_
                refine blk_r ?_;refine seq_r ?_
                exact ⟨trivial, [(64, some 1)], .of rfl rfl rfl rfl rfl ⟨⟨_, rfl, AVLe.of_eq rfl⟩, rfl, trivial⟩ ⟨⟨rfl, rfl, _, rfl, .refl _⟩, ⟨rfl, rfl, _, rfl, .refl _⟩, trivial⟩⟩
              | false =>
                cases c4 with
                | false => cases hc
                | true =>
                  refine sR ?_;refine rN ?_;refine rC ?_;refine nR ?_;iterate 3 refine rC ?_
                  refine rQ iM ?_;refine rC ?_;refine nR ?_;iterate 3 refine rC ?_
                  refine rQ iM ?_;refine rQ iD ?_;iterate 2 refine rC ?_
                  refine reg_store (store_row tab_ok rfl rfl rfl ⟨_, ⟨_, ⟨rfl, rfl, rfl⟩, rfl⟩, rfl⟩ rfl) ?_;refine nR ?_;refine rC ?_;refine rQ iB ?_;iterate 2 refine rC ?_
                  refine rO ?_;refine rC ?_;refine rO ?_;refine rQ iB ?_;refine rO ?_;refine rC ?_;refine rQ iT ?_;refine rC ?_;refine nR ?_;refine rC ?_;refine rQ iB ?_;refine rQ (build_array tab_ok rfl rfl rfl) ?_
                  refine rQ (eql_data rfl rfl rfl rfl (by kernel_rfl) (by decide) (block_eq x.value zBk)) ?_;refine rC ?_;refine nQ ?_;refine wc_block ?_;refine sR ?_;refine rC ?_
                  refine rQ iB ?_;iterate 2 refine rC ?_
                  refine nS ?_;refine wF ?_;refine sR ?_;refine rC ?_;refine rQ iB ?_;iterate 2 refine rC ?_
                  refine nS ?_;refine wT ?_;iterate 2 refine wc_seq ?_
                  refine wc_draw (by kernel_rfl) ?_;refine dC [6] [] ?_;refine dC [123] [] ?_;refine dC [124] [] ?_;refine dreg_onq [125, 0] [] rfl rfl (by assumption) rfl (step_C tab_ok (fun K hk => hk)) ?_
                  refine dreg_onq [125, 3] [] rfl rfl (by assumption) rfl (step_C tab_ok (fun K hk => hk)) ?_;refine dreg_onq [125, 127] [64] rfl rfl (by assumption) rfl (load_box tab_ok rfl rfl ⟨_, rfl, rfl⟩ rfl) ?_
                  refine dreg_onq [125, 126] [] rfl rfl (by assumption) rfl (step_C tab_ok (fun K hk => hk)) ?_;refine dreg_onq [125, 129] [] rfl rfl (by assumption) rfl (step_C tab_ok (fun K hk => hk)) ?_
                  refine dreg_onq [125, 130, 128] [] rfl rfl (by assumption) rfl (step_C tab_ok (fun K hk => ⟨by omega, by omega, hk⟩)) ?_;refine dreg_onq [125, 131] [0] rfl rfl (by assumption) rfl (load_box tab_ok rfl rfl ⟨_, ⟨rfl, _, hbg, rfl⟩, rfl⟩ rfl) ?_
                  refine dreg_onq [125, 132] [] rfl rfl (by assumption) rfl (step_C tab_ok (fun K hk => hk)) ?_;refine dQ [125, 133] [] iF ?_;refine dC [134] [] ?_;refine dreg_onq [135, 3] [] rfl rfl (by assumption) rfl (step_C tab_ok (fun K hk => hk)) ?_
                  refine dreg_onq [135, 136] [64] rfl rfl (by assumption) rfl (load_box tab_ok rfl rfl ⟨_, rfl, rfl⟩ rfl) ?_;refine dreg_onq [135, 137] [] rfl rfl (by assumption) rfl (call_r (blank_is x.op) rfl rfl (arg_e arg_nil) (.inl rfl) (fun _ => rfl)) ?_
                  refine dreg_onq [135, 138] [] rfl rfl (by assumption) rfl (step_C tab_ok (fun K hk => hk)) ?_;refine dQ [135, 139] [] iF ?_;refine dreg_end (by kernel_rfl) ?_;refine seq_n ?_
                  refine wF ?_;refine kS ?_;refine wc_seq ?_;refine wc_draw (by kernel_rfl) ?_;refine dC [0] [] ?_;refine dC [141] [] ?_;refine dC [142] [] ?_;refine dQ [143] [0] iM ?_
                  refine dC [0] [] ?_;refine dC [3] [] ?_;refine dQ [146] [64] iB ?_;refine dC [145] [] ?_;refine dC [148] [] ?_;refine dQ [149, 147] [] (step_C tab_ok (fun K hk => ⟨by omega, by omega, hk⟩)) ?_
                  refine dQ [150] [0] (load_box tab_ok rfl rfl ⟨_, ⟨rfl, _, hbg, rfl⟩, rfl⟩ rfl) ?_;refine dQ [151] [] (sub_int tab_ok rfl rfl hwb) ?_;refine dQ [144, 152] [] (index_own tab_ok rfl rfl rfl rfl rfl (by omega) (by omega)) ?_
                  refine dC [153] [] ?_;refine dreg_end (by kernel_rfl) ?_;refine seq_n ?_;refine sR ?_;refine rQ (StepIs.frozen (build_slice (s := 1) tab_ok rfl rfl rfl rfl rfl rfl rfl rfl) (Frz.litsN (enc := i6) [0, 1, 8, 9] rfl (fun _ _ => rfl))) ?_
                  refine rC ?_;refine rQ iB ?_;refine rQ (call_r (cte_is x.err [0, 1, 8, 9] (by decide)) rfl rfl (arg_e (arg_e arg_nil)) (.inl rfl) (fun _ => rfl)) ?_;refine rC ?_
                  refine nQ ?_;refine sR ?_;iterate 3 refine rC ?_
                  refine rO ?_;refine rC ?_;refine rO ?_;refine rC ?_;refine rO ?_;refine rC ?_;refine rO ?_;refine rC ?_;refine rO ?_;refine rC ?_;refine rO ?_;refine rC ?_;refine rO ?_
                  refine rC ?_;refine rO ?_;refine rQ (load_row tab_ok rfl rfl ⟨rfl, o, hog, _, rfl, rfl⟩ rfl) ?_;refine rO ?_;refine rC ?_;refine rO ?_;refine rC ?_;refine rO ?_
                  refine rC ?_;refine rO ?_;refine rQ iB ?_;refine rO ?_;refine rC ?_;refine rO ?_;refine rQ iF ?_;refine rO ?_;refine rQ iT ?_;refine rQ iF ?_;refine nS ?_;refine wT ?_
                  refine sR ?_;refine rC ?_;refine nS ?_;refine wc_ret ?_;refine seq_r ?_;refine blk_r ?_;refine seq_r ?_
                  exact ⟨trivial, [(64, some 1)], .of rfl rfl rfl rfl rfl ⟨⟨_, rfl, AVLe.of_eq rfl⟩, rfl, trivial⟩ ⟨⟨rfl, rfl, _, rfl, .refl _⟩, ⟨rfl, rfl, _, rfl, .refl _⟩, trivial⟩⟩
        · have z0 : (!decide (x.op = zOp)) = true := by rw [decide_eq_false hz]; rfl
          refine sR ?_;refine rN ?_;refine rC ?_;refine nR ?_;iterate 3 refine rC ?_
          refine rQ iM ?_;refine rC ?_;refine nR ?_;iterate 3 refine rC ?_
          refine rQ iM ?_;refine rQ iD ?_;iterate 2 refine rC ?_
          refine reg_store (store_row tab_ok rfl rfl rfl ⟨_, ⟨_, ⟨rfl, rfl, rfl⟩, rfl⟩, rfl⟩ rfl) ?_;refine nR ?_;refine rC ?_;refine rQ iB ?_;iterate 2 refine rC ?_
          refine rO ?_;refine rC ?_;refine rO ?_;refine rQ iB ?_;refine rO ?_;refine rC ?_;refine rQ iT ?_;refine rC ?_;refine nR ?_;refine rC ?_;refine rQ iB ?_;refine rQ (build_array tab_ok rfl rfl rfl) ?_
          refine rQ (eql_data rfl rfl rfl rfl (by kernel_rfl) (by decide) (block_eq x.value zBk)) ?_;refine rC ?_;refine nQ ?_;refine wc_block ?_;refine sR ?_;refine rC ?_
          refine rQ iB ?_;iterate 2 refine rC ?_
          refine nS ?_;refine wF ?_;refine sR ?_;refine rC ?_;refine rQ iB ?_;iterate 2 refine rC ?_
          refine nS ?_;refine wT ?_;iterate 2 refine wc_seq ?_
          refine wc_draw (by kernel_rfl) ?_;refine dC [6] [] ?_;refine dC [123] [] ?_;refine dC [124] [] ?_;refine dreg_onq [125, 0] [] rfl rfl (by assumption) rfl (step_C tab_ok (fun K hk => hk)) ?_
          refine dreg_onq [125, 3] [] rfl rfl (by assumption) rfl (step_C tab_ok (fun K hk => hk)) ?_;refine dreg_onq [125, 127] [64] rfl rfl (by assumption) rfl (load_box tab_ok rfl rfl ⟨_, rfl, rfl⟩ rfl) ?_
          refine dreg_onq [125, 126] [] rfl rfl (by assumption) rfl (step_C tab_ok (fun K hk => hk)) ?_;refine dreg_onq [125, 129] [] rfl rfl (by assumption) rfl (step_C tab_ok (fun K hk => hk)) ?_
          refine dreg_onq [125, 130, 128] [] rfl rfl (by assumption) rfl (step_C tab_ok (fun K hk => ⟨by omega, by omega, hk⟩)) ?_;refine dreg_onq [125, 131] [0] rfl rfl (by assumption) rfl (load_box tab_ok rfl rfl ⟨_, ⟨rfl, _, hbg, rfl⟩, rfl⟩ rfl) ?_
          refine dreg_onq [125, 132] [] rfl rfl (by assumption) rfl (step_C tab_ok (fun K hk => hk)) ?_;refine dQ [125, 133] [] iF ?_;refine dC [134] [] ?_;refine dreg_onq [135, 3] [] rfl rfl (by assumption) rfl (step_C tab_ok (fun K hk => hk)) ?_
          refine dreg_onq [135, 136] [64] rfl rfl (by assumption) rfl (load_box tab_ok rfl rfl ⟨_, rfl, rfl⟩ rfl) ?_;refine dreg_onq [135, 137] [] rfl rfl (by assumption) rfl (call_r (blank_is x.op) rfl rfl (arg_e arg_nil) (.inl rfl) (fun _ => rfl)) ?_
          refine dreg_onq [135, 138] [] rfl rfl (by assumption) rfl (step_C tab_ok (fun K hk => hk)) ?_;refine dQ [135, 139] [] iF ?_;refine dreg_end (by kernel_rfl) ?_;refine seq_n ?_
          refine wT ?_;refine sR ?_;refine rC ?_;refine nS ?_;refine wc_ret ?_;refine seq_r ?_;refine blk_r ?_;refine seq_r ?_
          exact ⟨trivial, [(64, some 1)], .of rfl rfl rfl rfl rfl ⟨⟨_, rfl, AVLe.of_eq rfl⟩, rfl, trivial⟩ ⟨⟨rfl, rfl, _, rfl, .refl _⟩, ⟨rfl, rfl, _, rfl, .refl _⟩, trivial⟩⟩
    · have c8 : decide (x.client < 8) = false := decide_eq_false hc8
      have n8 : (!decide (x.client < 8)) = true := by rw [c8]; rfl
      refine sR ?_;refine rN ?_;refine rC ?_;refine nR ?_;iterate 3 refine rC ?_
      refine rQ iM ?_;refine rC ?_;refine nR ?_;iterate 3 refine rC ?_
      refine rQ iM ?_;refine rQ iD ?_;iterate 2 refine rC ?_
      refine reg_store (store_row tab_ok rfl rfl rfl ⟨_, ⟨_, ⟨rfl, rfl, rfl⟩, rfl⟩, rfl⟩ rfl) ?_;refine nR ?_;refine rC ?_;refine rQ iB ?_;iterate 2 refine rC ?_
      refine rO ?_;refine rC ?_;refine rO ?_;refine rQ iB ?_;refine rO ?_;refine rC ?_;refine rQ iT ?_;refine rC ?_;refine nR ?_;refine rC ?_;refine rQ iB ?_;refine rQ (build_array tab_ok rfl rfl rfl) ?_
      refine rQ (eql_data rfl rfl rfl rfl (by kernel_rfl) (by decide) (block_eq x.value zBk)) ?_;refine rC ?_;refine nQ ?_;refine wc_block ?_;refine sR ?_;refine rC ?_
      refine rQ iB ?_;iterate 2 refine rC ?_
      refine nS ?_;refine wF ?_;refine sR ?_;refine rC ?_;refine rQ iB ?_;iterate 2 refine rC ?_
      refine nS ?_;refine wT ?_;iterate 2 refine wc_seq ?_
      refine wc_draw (by kernel_rfl) ?_;refine dC [6] [] ?_;refine dC [123] [] ?_;refine dC [124] [] ?_;refine dreg_offq [125, 0] rfl rfl (by assumption) rfl ?_;refine dreg_offq [125, 3] rfl rfl (by assumption) rfl ?_
      refine dreg_offq [125, 127] rfl rfl (by assumption) rfl ?_;refine dreg_offq [125, 126] rfl rfl (by assumption) rfl ?_;refine dreg_offq [125, 129] rfl rfl (by assumption) rfl ?_
      refine dreg_offq [125, 130, 128] rfl rfl (by assumption) rfl ?_;refine dreg_offq [125, 131] rfl rfl (by assumption) rfl ?_;refine dreg_offq [125, 132] rfl rfl (by assumption) rfl ?_
      refine dQ [125, 133] [] iT ?_;refine dC [134] [] ?_;refine dreg_offq [135, 3] rfl rfl rfl rfl ?_;refine dreg_offq [135, 136] rfl rfl rfl rfl ?_;refine dreg_offq [135, 137] rfl rfl rfl rfl ?_
      refine dreg_offq [135, 138] rfl rfl rfl rfl ?_;refine dQ [135, 139] [] iU ?_;refine dreg_end (by kernel_rfl) ?_;refine seq_n ?_;refine wV ?_;refine sR ?_;refine rC ?_
      refine nS ?_;refine wc_ret ?_;refine seq_r ?_;refine blk_r ?_;refine seq_r ?_
      exact ⟨trivial, [(64, some 1)], .of rfl rfl rfl rfl rfl ⟨⟨_, rfl, AVLe.of_eq rfl⟩, rfl, trivial⟩ ⟨⟨rfl, rfl, _, rfl, .refl _⟩, ⟨rfl, rfl, _, rfl, .refl _⟩, trivial⟩⟩
  · have c0 : decide (0 ≤ x.client) = false := decide_eq_false hc0
    refine sR ?_;refine rN ?_;refine rC ?_;refine nR ?_;iterate 3 refine rC ?_
    refine rQ iM ?_;refine rC ?_;refine nR ?_;iterate 3 refine rC ?_
    refine rQ iM ?_;refine rQ iD ?_;iterate 2 refine rC ?_
    refine reg_store (store_row tab_ok rfl rfl rfl ⟨_, ⟨_, ⟨rfl, rfl, rfl⟩, rfl⟩, rfl⟩ rfl) ?_;refine nR ?_;refine rC ?_;refine rQ iB ?_;iterate 2 refine rC ?_
    iterate 3 refine rS ?_
    refine rQ iF ?_;refine rC ?_;refine nR ?_;refine rC ?_;refine rQ iB ?_;refine rQ (build_array tab_ok rfl rfl rfl) ?_;refine rQ (eql_data rfl rfl rfl rfl (by kernel_rfl) (by decide) (block_eq x.value zBk)) ?_
    refine rC ?_;refine nQ ?_;refine wc_block ?_;refine sR ?_;refine rC ?_;refine rQ iB ?_;iterate 2 refine rC ?_
    refine nS ?_;refine wF ?_;refine sR ?_;refine rC ?_;refine rQ iB ?_;iterate 2 refine rC ?_
    refine nS ?_;refine wT ?_;iterate 2 refine wc_seq ?_
    refine wc_draw (by kernel_rfl) ?_;refine dC [6] [] ?_;refine dC [123] [] ?_;refine dC [124] [] ?_;refine dreg_offq [125, 0] rfl rfl rfl rfl ?_;refine dreg_offq [125, 3] rfl rfl rfl rfl ?_
    refine dreg_offq [125, 127] rfl rfl rfl rfl ?_;refine dreg_offq [125, 126] rfl rfl rfl rfl ?_;refine dreg_offq [125, 129] rfl rfl rfl rfl ?_;refine dreg_offq [125, 130, 128] rfl rfl rfl rfl ?_
    refine dreg_offq [125, 131] rfl rfl rfl rfl ?_;refine dreg_offq [125, 132] rfl rfl rfl rfl ?_;refine dQ [125, 133] [] iU ?_;refine dC [134] [] ?_;refine dreg_offq [135, 3] rfl rfl rfl rfl ?_
    refine dreg_offq [135, 136] rfl rfl rfl rfl ?_;refine dreg_offq [135, 137] rfl rfl rfl rfl ?_;refine dreg_offq [135, 138] rfl rfl rfl rfl ?_;refine dQ [135, 139] [] iU ?_
    refine dreg_end (by kernel_rfl) ?_;refine seq_n ?_;refine wV ?_;refine sR ?_;refine rC ?_;refine nS ?_;refine wc_ret ?_;refine seq_r ?_;refine blk_r ?_;refine seq_r ?_
    exact ⟨trivial, [(64, some 1)], .of rfl rfl rfl rfl rfl ⟨⟨_, rfl, AVLe.of_eq rfl⟩, rfl, trivial⟩ ⟨⟨rfl, rfl, _, rfl, .refl _⟩, ⟨rfl, rfl, _, rfl, .refl _⟩, trivial⟩⟩
theorem take_is (s : RdS) (x : HEv) (n : Nat) (hs : s.Ok n) (hn : n ≤ 1000000) : TakeIs s x (takeS s x).1 (takeS s x).2 := by
  by_cases k1 : x.kind = 1
  · cases hi : inv1 s x with
    | false =>
      have h := take_inv_no s x n hs hn k1 hi
      have e : takeS s x = ({ s with read := s.read + 1 }, false) := by simp [takeS, k1, hi]
      rw [e]; exact h
    | true =>
      have hi' := hi
      simp only [inv1, Bool.and_eq_true, decide_eq_true_eq] at hi'
      obtain ⟨⟨⟨⟨⟨h1, h2⟩, h3⟩, h4⟩, h5⟩, h6⟩ := hi'
      obtain ⟨m, hm⟩ : ∃ m, s.number[x.client.toNat]? = some m := ⟨_, List.getElem?_eq_getElem (by rw [hs.nlen]; omega)⟩
      have h := take_inv s x n hs hn k1 m h1 h2 h3 hm h4 h5 h6
      have e : takeS s x = (⟨s.busy.set x.client.toNat ((s.all.length + 1 : Nat) : Int), s.number.set x.client.toNat (m + 1), s.era, s.read + 1, s.all ++ [⟨x.client, m, s.era, x.op, s.read, -1, zBk, 0⟩]⟩, true) := by
        simp [takeS, k1, hi, hm]
      rw [e]; exact h
  · by_cases k2 : x.kind = 2
    · cases hi : ret1 s x with
      | false =>
        have h := take_ret_no s x n hs hn k2 hi
        have e : takeS s x = ({ s with read := s.read + 1 }, false) := by simp [takeS, k2, hi]
        rw [e]; exact h
      | true =>
        have hi' := hi
        simp only [ret1, Bool.and_eq_true, decide_eq_true_eq] at hi'
        obtain ⟨⟨⟨⟨⟨h1, h2⟩, h3⟩, h4⟩, h5⟩, h6⟩ := hi'
        obtain ⟨b, hbg⟩ : ∃ b, s.busy[x.client.toNat]? = some b := ⟨_, List.getElem?_eq_getElem (by rw [hs.blen]; omega)⟩
        have hb := hs.busy b (List.mem_of_getElem? hbg)
        have hb0 : b ≠ 0 := by rw [hbg] at h3; simpa using h3
        obtain ⟨o, hog⟩ : ∃ o, s.all[(b - 1).toNat]? = some o := ⟨_, List.getElem?_eq_getElem (by omega)⟩
        have ho : opOf s x = some o := by rw [opOf, hbg]; exact hog
        rw [ho] at h6
        have h := take_ret_w s x n hs hn k2 b o h1 h2 hbg hb0 hog h4 _ _ _ rfl rfl rfl (by
          rw [kn4_any, h5]
          simp only at h6
          revert h6
          cases decide (x.value = zBk) <;> cases decide (o.op.kind = 1) <;> cases decide (x.err = 0) <;> decide)
        have e : takeS s x = (⟨s.busy.set x.client.toNat 0, s.number, s.era, s.read + 1, s.all.set (b - 1).toNat { o with returned := s.read, value := x.value, err := x.err }⟩, true) := by
          simp [takeS, k2, hi, ho, hbg]
        rw [e]; exact h
    · by_cases k3 : x.kind = 3
      · have h := take_crash s x n hs hn k3 _ _ _ _ rfl rfl rfl rfl
        have e : takeS s x = (⟨zero8, s.number, s.era + 1, s.read + 1, s.all⟩, crash1 x) := by simp [takeS, k3]
        rw [e]; exact h
      · have h := take_other s x n hs hn k1 k2 k3 _ rfl
        have e : takeS s x = ({ s with read := s.read + 1 }, false) := by simp [takeS, k1, k2, k3]
        rw [e]; exact h
end Go.Proofs.YtmojbghcngdkpaaGreatDoor

namespace Go.Proofs.YtmojbghcngdkpaaGreatDoor
open Go.Eng Go.Plain
set_option maxHeartbeats 8000000
set_option maxRecDepth 20000
attribute [local irreducible] WC RegS RegD SeqQ BlkQ ScoQ RegK CutK Sat SatN FnIs LoopQ StepIs OpIs
abbrev fnT (r : Nat) : AV := .fn (.func 71) (.acons (.ptr r []) .anil) .anil
abbrev fnF (r : Nat) : AV := .fn (.func 133) .anil (.acons (.ptr r []) .anil)
def goS : RdS → List HEv → Nat → RdS × Int
  | s, [], _ => (s, -1)
  | s, x :: l, i => if (takeS s x).2 then goS (takeS s x).1 l (i + 1) else ((takeS s x).1, (i : Int))
theorem first1_is (s : RdS) (x : HEv) (n : Nat) (hs : s.Ok n) (hn : n ≤ 1000000) : FnIs Tryz.prog 133 [.d (encEv x), .ptr 0 []] [(0, .box 136 (fnT 1)), (1, rdRow s 2), (2, opRow s.all)] (.bool (!(takeS s x).2)) [(0, .box 136 (fnT 1)), (1, rdRow (takeS s x).1 64), (64, opRow (takeS s x).1.all)] := by
  refine fnIs_of tab_ok Tryz.func133 rfl rfl rfl ?_;refine sR ?_;refine rN ?_;refine rC ?_;refine nR ?_;iterate 2 refine rQ iM ?_
  refine reg_do rfl (call_b [(0, some 1), (1, some 2)] (take_is s x n hs hn) rfl rfl rfl rfl (arg_ptr rfl rfl (arg_e arg_nil)) ⟨⟨rfl, rfl, _, _, rfl, rfl, .refl _⟩, ⟨rfl, rfl, _, _, rfl, rfl, .refl _⟩, trivial⟩ rfl rfl (.inl rfl) rfl rfl) rfl rfl ?_
  iterate 2 refine rC ?_
  refine nS ?_;refine wc_ret ?_
  exact ⟨trivial, [(64, some _)], .of rfl rfl rfl rfl rfl ⟨⟨_, rfl, AVLe.of_eq rfl⟩, rfl, trivial⟩ ⟨⟨rfl, rfl, _, rfl, .refl _⟩, ⟨rfl, rfl, _, rfl, .refl _⟩, ⟨rfl, rfl, _, rfl, .refl _⟩, trivial⟩⟩
theorem goS_step {s : RdS} {h : List HEv} {i : Nat} {x : HEv} (hx : h[i]? = some x) : goS s (h.drop i) i = if (takeS s x).2 then goS (takeS s x).1 (h.drop (i + 1)) (i + 1) else ((takeS s x).1, (i : Int)) := by
  have hlt := (List.getElem?_eq_some_iff.1 hx).1
  rw [List.drop_eq_getElem_cons hlt, (List.getElem?_eq_some_iff.1 hx).2]
  rfl
theorem ixh_is (h : List HEv) (hL : h.length ≤ 1000000) (s0 : RdS) (hs0 : s0.Ok 0) : FnIs Tryz.prog 132 [.d (encH h), fnF 0] [(0, .box 136 (fnT 1)), (1, rdRow s0 2), (2, opRow s0.all)] (.int .i64 (goS s0 h 0).2) [(0, .box 136 (fnT 1)), (1, rdRow (goS s0 h 0).1 64), (64, opRow (goS s0 h 0).1.all)] := by
  refine fnIs_of tab_ok Tryz.func132 rfl rfl rfl ?_;refine sR ?_;refine rC ?_;refine nQ ?_;refine sR ?_;refine rC ?_;refine rQ iE ?_;refine rC ?_;refine nS ?_;refine wc_block ?_
  refine wc_inv (fun q : RdS × Nat => ⟨[(8, .int .i64 q.2), (7, .int .i64 h.length), (1, fnF 0), (0, .d (encH h))], [(0, some (.box 136 (fnT 1))), (1, some (rdRow q.1 65)), (65, some (opRow q.1.all))], 72, Tryz.f132.ntmps, 64⟩) (fun q => q.2 ≤ h.length ∧ q.1.Ok q.2 ∧ goS q.1 (h.drop q.2) q.2 = goS s0 h 0) (fun q => h.length - q.2) (s0, 0) [(65, some 2)] ⟨Nat.zero_le _, hs0, rfl⟩
    (.of rfl rfl rfl rfl rfl ⟨⟨_, rfl, .refl _⟩, rfl, ⟨_, rfl, .refl _⟩, rfl, ⟨_, rfl, .refl _⟩, rfl, ⟨_, rfl, .refl _⟩, rfl, trivial⟩ ⟨⟨rfl, rfl, _, rfl, .refl _⟩, ⟨rfl, rfl, _, rfl, .refl _⟩, ⟨rfl, rfl, _, rfl, .refl _⟩, trivial⟩) ?_
  rintro ⟨s, i⟩ ⟨hi, hs, hgo⟩
  refine wc_of ?_;refine sR ?_;refine rC ?_;refine nQ ?_
  refine wc_cond rfl (fun h2 => ?_) (fun h2 => ?_)
  · have hlt : i < h.length := by have := of_decide_eq_true h2; omega
    obtain ⟨x, hx⟩ : ∃ u, h[i]? = some u := ⟨_, List.getElem?_eq_getElem hlt⟩
    have hx' : h[((i : Int)).toNat]? = some x := by rw [Int.toNat_natCast]; exact hx
    have hfst := first1_is s x i hs (by omega)
    have hst := goS_step (s := s) hx
    rw [hgo] at hst
    cases hb : (takeS s x).2 with
    | false =>
      rw [hb] at hst hfst
      rw [hst]
      refine kS ?_;refine wc_seq ?_;refine wc_block ?_;refine sR ?_;iterate 2 refine rC ?_
      refine nR ?_;iterate 3 refine rC ?_
      refine rQ (index_arr tab_ok rfl rfl rfl rfl rfl (by omega) hx') ?_;refine rQ iL ?_;refine reg_do rfl (call_h [(0, some 0), (1, some 1), (2, some 65)] hfst rfl rfl rfl (arg_e (arg_ptr rfl rfl arg_nil)) ⟨⟨rfl, rfl, _, _, rfl, rfl, .refl _⟩, ⟨rfl, rfl, _, _, rfl, rfl, .refl _⟩, ⟨rfl, rfl, _, _, rfl, rfl, .refl _⟩, trivial⟩ rfl rfl (.inl rfl) rfl rfl) rfl rfl ?_
      refine nS ?_;refine wV ?_;refine sR ?_;iterate 2 refine rC ?_
      refine nS ?_;refine wc_ret ?_;refine blk_r ?_;refine seq_r ?_;refine loop_r ?_;refine blk_r ?_;refine seq_r ?_
      exact ⟨trivial, [(64, some _)], .of rfl rfl rfl rfl rfl ⟨⟨_, rfl, AVLe.of_eq rfl⟩, rfl, trivial⟩ ⟨⟨rfl, rfl, _, rfl, .refl _⟩, ⟨rfl, rfl, _, rfl, .refl _⟩, ⟨rfl, rfl, _, rfl, .refl _⟩, trivial⟩⟩
    | true =>
      rw [hb] at hst hfst
      refine kS ?_;refine wc_seq ?_;refine wc_block ?_;refine sR ?_;iterate 2 refine rC ?_
      refine nR ?_;iterate 3 refine rC ?_
      refine rQ (index_arr tab_ok rfl rfl rfl rfl rfl (by omega) hx') ?_;refine rQ iL ?_;refine reg_do rfl (call_h [(0, some 0), (1, some 1), (2, some 65)] hfst rfl rfl rfl (arg_e (arg_ptr rfl rfl arg_nil)) ⟨⟨rfl, rfl, _, _, rfl, rfl, .refl _⟩, ⟨rfl, rfl, _, _, rfl, rfl, .refl _⟩, ⟨rfl, rfl, _, _, rfl, rfl, .refl _⟩, trivial⟩ rfl rfl (.inl rfl) rfl rfl) rfl rfl ?_
      refine nS ?_;refine wG ?_;refine wc_skip ?_;refine blk_n ?_;refine seq_n ?_;refine wc_region ?_;refine rQ iD ?_;refine rC ?_;refine reg_nil ?_
      exact loop_n ((takeS s x).1, i + 1) [(65, some _)] ⟨hlt, hs.next x, hst.symm⟩ (by show h.length - (i + 1) < h.length - i; omega) (.of rfl rfl rfl rfl rfl ⟨⟨_, rfl, .refl _⟩, rfl, ⟨_, rfl, .refl _⟩, rfl, ⟨_, rfl, .refl _⟩, rfl, ⟨_, rfl, .refl _⟩, rfl, trivial⟩ ⟨⟨rfl, rfl, _, rfl, .refl _⟩, ⟨rfl, rfl, _, rfl, .refl _⟩, ⟨rfl, rfl, _, rfl, .refl _⟩, trivial⟩)
  · have he : i = h.length := by have := of_decide_eq_false h2; omega
    subst he
    rw [List.drop_length] at hgo
    rw [← hgo]
    refine wc_exit ?_;refine seq_x ?_;refine loop_x ?_;refine blk_x ?_;refine seq_n ?_;refine sR ?_;refine rC ?_;refine nS ?_;refine wc_ret ?_
    exact ⟨trivial, [(64, some _)], .of rfl rfl rfl rfl rfl ⟨⟨_, rfl, AVLe.of_eq rfl⟩, rfl, trivial⟩ ⟨⟨rfl, rfl, _, rfl, .refl _⟩, ⟨rfl, rfl, _, rfl, .refl _⟩, ⟨rfl, rfl, _, rfl, .refl _⟩, trivial⟩⟩
theorem first_is (h : List HEv) (hL : h.length ≤ 1000000) (s0 : RdS) (hs0 : s0.Ok 0) : FnIs Tryz.prog 105 [.d (encH h), fnT 0] [(0, rdRow s0 1), (1, opRow s0.all)] (.int .i64 (goS s0 h 0).2) [(0, rdRow (goS s0 h 0).1 64), (64, opRow (goS s0 h 0).1.all)] := by
  refine fnIs_of tab_ok Tryz.func105 rfl rfl rfl ?_;refine sR ?_;refine rN ?_;refine rC ?_;refine nR ?_;iterate 2 refine rC ?_
  refine reg_do rfl (call_h [(0, some 64), (1, some 0), (2, some 1)] (ixh_is h hL s0 hs0) rfl rfl rfl (arg_e (arg_fn1 rfl rfl arg_nil)) ⟨⟨rfl, rfl, _, _, rfl, rfl, .refl _⟩, ⟨rfl, rfl, _, _, rfl, rfl, .refl _⟩, ⟨rfl, rfl, _, _, rfl, rfl, .refl _⟩, trivial⟩ rfl rfl (.inl rfl) rfl rfl) rfl rfl ?_
  refine rC ?_;refine nS ?_;refine wc_ret ?_
  exact ⟨trivial, [(64, some _)], .of rfl rfl rfl rfl rfl ⟨⟨_, rfl, AVLe.of_eq rfl⟩, rfl, trivial⟩ ⟨⟨rfl, rfl, _, rfl, .refl _⟩, ⟨rfl, rfl, _, rfl, .refl _⟩, trivial⟩⟩
end Go.Proofs.YtmojbghcngdkpaaGreatDoor

namespace Go.Proofs.YtmojbghcngdkpaaGreatDoor
open Go.Eng Go.Plain
set_option maxHeartbeats 8000000
set_option maxRecDepth 20000
attribute [local irreducible] WC RegS RegD SeqQ BlkQ ScoQ RegK CutK Sat SatN FnIs LoopQ StepIs OpIs
abbrev ch8 : D := .cons (.sc (.int .i64 0)) (.cons (.sc (.int .i64 0)) (.cons (.sc (.int .i64 0)) (.cons (.sc (.int .i64 0)) (.cons (.sc (.int .i64 0)) (.cons (.sc (.int .i64 0)) (.cons (.sc (.int .i64 0)) (.cons (.sc (.int .i64 0)) .nil)))))))
theorem ch8_le : DLe ch8 (.vec 8 1 i6 zero8) := by
  rintro w X cs ⟨a1, r1, rfl, ⟨rfl, o1⟩, a2, r2, rfl, ⟨rfl, _⟩, a3, r3, rfl, ⟨rfl, _⟩, a4, r4, rfl, ⟨rfl, _⟩, a5, r5, rfl, ⟨rfl, _⟩, a6, r6, rfl, ⟨rfl, _⟩, a7, r7, rfl, ⟨rfl, _⟩, a8, r8, rfl, ⟨rfl, _⟩, rfl⟩
  refine ⟨rfl, fun _ => [.int .i64 0], fun i hi => ⟨?_, rfl⟩, rfl⟩
  have hz : ∀ b ∈ zero8, b = 0 := by decide
  rw [hz _ (List.getElem_mem hi)]
  exact ⟨rfl, o1⟩
theorem rd0_le : RowLe (.box 114 (.d (.cons ch8 (.cons ch8 (.cons (.sc (.int .i64 0)) (.cons (.sc (.int .i64 0)) (.cons (.sc (.slice none 0 0)) .nil)))))))
    (.box 114 (.acons (.d (.vec 8 1 i6 zero8)) (.acons (.d (.vec 8 1 i6 zero8)) (.acons (.d (i6 0)) (.acons (.d (i6 0)) (.acons (.d (.sc nil_)) .anil)))))) := by
  rintro σ w X r ⟨hf, b, cs, h1, h2, a1, r1, h3, h4, a2, r2, rfl, h5, a3, r3, rfl, h6, a4, r4, rfl, h7, a5, r5, rfl, h8, rfl⟩
  exact ⟨rfl, b, cs, h1, h2, a1, _, h3, ch8_le _ _ _ h4, a2, _, rfl, ch8_le _ _ _ h5, a3, _, rfl, h6, a4, _, rfl, h7, a5, _, rfl, h8, rfl⟩
def rdH (h : List HEv) : RdS := if 8192 < h.length then rd0 else (goS rd0 h 0).1
def chkH (h : List HEv) : Int × Int := if 8192 < h.length then (0, 3) else if 0 ≤ (goS rd0 h 0).2 then ((goS rd0 h 0).2, 18) else (0, 0)
theorem read_is (h : List HEv) (hh : h.length ≤ 9223372036854775807) : FnIs Tryz.prog 56 [.d (encH h)] [] (.tup (.acons (.ptr 64 []) (.acons (.int .i64 (chkH h).1) (.acons (.int .i64 (chkH h).2) .anil)))) [(64, rdRow (rdH h) 65), (65, opRow (rdH h).all)] := by
  unfold rdH chkH
  obtain ⟨Z, hZ⟩ : ∃ Z, decide ((8192 : Int) < (h.length : Int)) = Z := ⟨_, rfl⟩
  refine fnIs_of tab_ok Tryz.func56 rfl rfl rfl ?_;refine sR ?_;iterate 3 refine rC ?_
  refine nR ?_;refine rQ iS ?_;refine rN ?_;refine rC ?_;refine nS ?_;refine wc_le (env' := [(2, .ptr 64 []), (0, .d (encH h))]) (h' := [(64, some (rdRow rd0 65)), (65, some (opRow []))]) 72 [(64, some 96), (65, none)] (.of rfl rfl rfl rfl rfl ⟨⟨_, rfl, .refl _⟩, rfl, ⟨_, rfl, .refl _⟩, rfl, trivial⟩ ⟨⟨rfl, rfl, _, rfl, rd0_le⟩, ⟨rfl, rfl, rfl⟩, trivial⟩) ?_
  cases Z with
  | true =>
    have h8 : 8192 < h.length := by have := of_decide_eq_true hZ; omega
    rw [if_pos h8, if_pos h8]
    refine qR ?_;refine rC ?_;refine rQ iE ?_;refine rC ?_;refine nS ?_;refine wT ?_;refine sR ?_;iterate 4 refine rC ?_
    refine nS ?_;refine wc_ret ?_;refine seq_r ?_
    exact ⟨trivial, [(64, some _), (65, some _)], .of rfl rfl rfl rfl rfl ⟨⟨_, rfl, AVLe.of_eq rfl⟩, rfl, trivial⟩ ⟨⟨rfl, rfl, _, rfl, .refl _⟩, ⟨rfl, rfl, _, rfl, .refl _⟩, trivial⟩⟩
  | false =>
    have h8 : ¬ 8192 < h.length := by have := of_decide_eq_false hZ; omega
    have hL : h.length ≤ 1000000 := by omega
    rw [if_neg h8, if_neg h8]
    by_cases h0 : 0 ≤ (goS rd0 h 0).2
    · have d0 : decide (0 ≤ (goS rd0 h 0).2) = true := decide_eq_true h0
      rw [if_pos h0]
      refine qR ?_;refine rC ?_;refine rQ iE ?_;refine rC ?_;refine nS ?_;refine wF ?_;refine kS ?_;refine qR ?_;iterate 3 refine rC ?_
      refine reg_do rfl (call_h [(0, some 64), (1, some 65)] (first_is h hL rd0 rd0_ok) rfl rfl rfl (arg_e (arg_fnb rfl rfl arg_nil)) ⟨⟨rfl, rfl, _, _, rfl, rfl, .refl _⟩, ⟨rfl, rfl, _, _, rfl, rfl, .refl _⟩, trivial⟩ rfl rfl (.inl rfl) rfl rfl) rfl rfl ?_
      refine rC ?_;refine nR ?_;iterate 2 refine rC ?_
      refine nS ?_;refine wT ?_;refine sR ?_;iterate 5 refine rC ?_
      refine nS ?_;refine wc_ret ?_;refine seq_r ?_
      exact ⟨trivial, [(64, some _), (65, some _)], .of rfl rfl rfl rfl rfl ⟨⟨_, rfl, AVLe.of_eq rfl⟩, rfl, trivial⟩ ⟨⟨rfl, rfl, _, rfl, .refl _⟩, ⟨rfl, rfl, _, rfl, .refl _⟩, trivial⟩⟩
    · have d0 : decide (0 ≤ (goS rd0 h 0).2) = false := decide_eq_false h0
      rw [if_neg h0]
      refine qR ?_;refine rC ?_;refine rQ iE ?_;refine rC ?_;refine nS ?_;refine wF ?_;refine kS ?_;refine qR ?_;iterate 3 refine rC ?_
      refine reg_do rfl (call_h [(0, some 64), (1, some 65)] (first_is h hL rd0 rd0_ok) rfl rfl rfl (arg_e (arg_fnb rfl rfl arg_nil)) ⟨⟨rfl, rfl, _, _, rfl, rfl, .refl _⟩, ⟨rfl, rfl, _, _, rfl, rfl, .refl _⟩, trivial⟩ rfl rfl (.inl rfl) rfl rfl) rfl rfl ?_
      refine rC ?_;refine nR ?_;iterate 2 refine rC ?_
      refine nS ?_;refine wF ?_;refine kS ?_;refine sR ?_;iterate 4 refine rC ?_
      refine nS ?_;refine wc_ret ?_
      exact ⟨trivial, [(64, some _), (65, some _)], .of rfl rfl rfl rfl rfl ⟨⟨_, rfl, AVLe.of_eq rfl⟩, rfl, trivial⟩ ⟨⟨rfl, rfl, _, rfl, .refl _⟩, ⟨rfl, rfl, _, rfl, .refl _⟩, trivial⟩⟩
end Go.Proofs.YtmojbghcngdkpaaGreatDoor

namespace Go.Proofs.YtmojbghcngdkpaaGreatDoor
open Go.Eng Go.Plain
set_option maxHeartbeats 8000000
set_option maxRecDepth 20000
attribute [local irreducible] WC RegS RegD SeqQ BlkQ ScoQ RegK CutK Sat SatN FnIs LoopQ StepIs OpIs
theorem hcheck_is (h : List HEv) (hh : h.length ≤ 9223372036854775807) : FnIs Tryz.prog 20 [.d (encH h)] [] (.tup (.acons (.int .i64 (chkH h).1) (.acons (.int .i64 (chkH h).2) .anil))) [] := by
  refine fnIs_of tab_ok Tryz.func20 rfl rfl rfl ?_;refine sR ?_;iterate 2 refine rC ?_
  refine nR ?_;refine rC ?_;refine reg_new2 (call_h [] (read_is h hh) rfl rfl rfl (arg_e arg_nil) trivial rfl rfl (.inl rfl) rfl rfl) rfl ?_;iterate 6 refine rC ?_
  refine nR ?_;iterate 4 refine rC ?_
  refine nS ?_;refine wc_ret ?_
  exact ⟨trivial, [], lf⟩
def opsH (h : List HEv) : List HOp := if (chkH h).2 = 0 then (rdH h).all else []
theorem hops_is (h : List HEv) (hh : h.length ≤ 9223372036854775807) (hal : (rdH h).all.length ≤ 1048576) : FnIs Tryz.prog 21 [.d (encH h)] [] (.tup (.acons (.d (encOX (opsH h))) (.acons (.int .i64 (chkH h).2) .anil))) [] := by
  unfold opsH
  by_cases h0 : (chkH h).2 = 0
  · have d0 : (!decide ((chkH h).2 = 0)) = false := by rw [decide_eq_true h0]; rfl
    rw [if_pos h0, h0]
    refine fnIs_of tab_ok Tryz.func21 rfl rfl rfl ?_;refine sR ?_;iterate 2 refine rC ?_
    refine nR ?_;refine rC ?_;refine reg_new2 (call_h [] (read_is h hh) rfl rfl rfl (arg_e arg_nil) trivial rfl rfl (.inl rfl) rfl rfl) rfl ?_;iterate 7 refine rC ?_
    refine nQ ?_;refine sR ?_;iterate 2 refine rC ?_
    refine nS ?_;refine wF ?_;refine kS ?_;refine sR ?_;iterate 3 refine rC ?_
    refine rQ iM ?_;refine reg_freeze (env' := [(19, _)]) (h' := []) 89 _ rfl ⟨⟨_, rfl, Frz.own rfl⟩, trivial⟩ trivial ?_;refine rQ (call_r (exo_is (rdH h).all hal) rfl rfl (arg_e arg_nil) (.inl rfl) (fun _ => rfl)) ?_
    iterate 2 refine rC ?_
    refine nS ?_;refine wc_ret ?_
    exact ⟨trivial, [], lf⟩
  · have d0 : (!decide ((chkH h).2 = 0)) = true := by rw [decide_eq_false h0]; rfl
    rw [if_neg h0]
    refine fnIs_of tab_ok Tryz.func21 rfl rfl rfl ?_;refine sR ?_;iterate 2 refine rC ?_
    refine nR ?_;refine rC ?_;refine reg_new2 (call_h [] (read_is h hh) rfl rfl rfl (arg_e arg_nil) trivial rfl rfl (.inl rfl) rfl rfl) rfl ?_;iterate 7 refine rC ?_
    refine nQ ?_;refine sR ?_;iterate 2 refine rC ?_
    refine nS ?_;refine wT ?_;refine sR ?_;iterate 3 refine rC ?_
    refine nS ?_;refine wc_ret ?_;refine seq_r ?_
    exact ⟨trivial, [], .of rfl rfl rfl rfl rfl ⟨⟨_, rfl, AVLe.tup1 (nil_arx _ _) rfl⟩, rfl, trivial⟩ trivial⟩
def erasG : List HEv → List (List HEv) → List HEv → List (List HEv)
  | [], out, era => out ++ [era]
  | x :: l, out, era => if x.kind = 3 then erasG l (out ++ [era]) [] else erasG l out (era ++ [x])
theorem erasG_step {h : List HEv} {i : Nat} {x : HEv} (hx : h[i]? = some x) (out : List (List HEv)) (era : List HEv) : erasG (h.drop i) out era = if x.kind = 3 then erasG (h.drop (i + 1)) (out ++ [era]) [] else erasG (h.drop (i + 1)) out (era ++ [x]) := by
  have hlt := (List.getElem?_eq_some_iff.1 hx).1
  rw [List.drop_eq_getElem_cons hlt, (List.getElem?_eq_some_iff.1 hx).2]
  rfl
theorem heras_is (h : List HEv) (hh : h.length ≤ 1000000) (hd : ∀ x ∈ h, x.op.data.length ≤ 1048576) : FnIs Tryz.prog 22 [.d (encH h)] [] (.tup (.acons (.d (.arx 1 encHX (if (chkH h).2 = 0 then erasG h [] [] else []))) (.acons (.int .i64 (chkH h).2) .anil))) [] := by
  have hh : h.length ≤ 9223372036854775807 := by omega
  by_cases h0 : (chkH h).2 = 0
  · have d0 : (!decide ((chkH h).2 = 0)) = false := by rw [decide_eq_true h0]; rfl
    rw [if_pos h0, h0]
    refine fnIs_of tab_ok Tryz.func22 rfl rfl rfl ?_;refine sR ?_;iterate 2 refine rC ?_
    refine nQ ?_;refine sR ?_;refine rC ?_;refine rQ (call_r (hcheck_is h hh) rfl rfl (arg_e arg_nil) (.inl rfl) (fun _ => rfl)) ?_;iterate 5 refine rC ?_
    refine nR ?_;iterate 2 refine rC ?_
    refine nS ?_;refine wF ?_;refine kS ?_;refine sR ?_;refine rC ?_;refine nR ?_;refine rC ?_;refine nQ ?_;refine sR ?_;refine rC ?_;refine rQ iE ?_;refine rC ?_;refine nS ?_
    refine wc_block ?_
    refine wc_inv (fun q : Nat × List (List HEv) × List HEv => ⟨[(20, .int .i64 q.1), (19, .int .i64 h.length), (18, .d (encH h)), (7, .own 66 0 q.2.2.length 38 none), (6, .own 65 0 q.2.1.length 1 none)], [(65, some (.ds 22 1 false encHX q.2.1)), (66, some (.ds 59 38 false encEv q.2.2))], 72, Tryz.f22.ntmps, 64⟩) (fun q => q.1 ≤ h.length ∧ q.2.1.length ≤ q.1 ∧ q.2.2.length ≤ q.1 ∧ erasG (h.drop q.1) q.2.1 q.2.2 = erasG h [] []) (fun q => h.length - q.1) (0, [], []) [(65, none), (66, none)] ⟨Nat.zero_le _, Nat.le_refl _, Nat.le_refl _, rfl⟩
      (.of rfl rfl rfl rfl rfl ⟨⟨_, rfl, .refl _⟩, rfl, ⟨_, rfl, .refl _⟩, rfl, ⟨_, rfl, .refl _⟩, rfl, ⟨_, rfl, .refl _⟩, rfl, ⟨_, rfl, .refl _⟩, rfl, trivial⟩ ⟨⟨rfl, rfl, rfl⟩, ⟨rfl, rfl, rfl⟩, trivial⟩) ?_
    rintro ⟨i, out, era⟩ ⟨hi, ho, he, hgo⟩
    simp only at hi ho he hgo
    have hera : era.length ≤ 1048576 := by omega
    have hera1 : era.length + 1 ≤ 1048576 := by omega
    have hout : out.length + 1 ≤ 1048576 := by omega
    have hout2 : (out ++ [era]).length ≤ 1048576 := by simp; omega
    refine wc_of ?_;refine sR ?_;refine rC ?_;refine nQ ?_
    refine wc_cond rfl (fun h2 => ?_) (fun h2 => ?_)
    · have hlt : i < h.length := by have := of_decide_eq_true h2; omega
      obtain ⟨x, hx⟩ : ∃ u, h[i]? = some u := ⟨_, List.getElem?_eq_getElem hlt⟩
      have hx' : h[((i : Int)).toNat]? = some x := by rw [Int.toNat_natCast]; exact hx
      have hdx := hd x (List.mem_of_getElem? hx)
      have hst := erasG_step hx out era
      rw [hgo] at hst
      by_cases k3 : x.kind = 3
      · have d3 : decide (x.kind = 3) = true := decide_eq_true k3
        rw [if_pos k3] at hst
        refine kS ?_;refine wc_seq ?_;refine wc_block ?_;refine sR ?_;refine rQ (index_arr tab_ok rfl rfl rfl rfl rfl (by omega) hx') ?_;refine rQ iL ?_;refine rN ?_;refine rW ?_
        refine nQ ?_;refine sR ?_;refine rC ?_;refine rQ iB ?_;refine rC ?_;refine nS ?_;refine wT ?_;refine sR ?_;iterate 2 refine rC ?_
        refine reg_freeze (env' := [(28, _), (27, _), (20, _), (19, _), (18, _), (6, _)]) (h' := [(65, some _)]) 66 _ rfl ⟨⟨_, rfl, Frz.own rfl⟩, ⟨_, rfl, .refl _⟩, ⟨_, rfl, .refl _⟩, ⟨_, rfl, .refl _⟩, ⟨_, rfl, .refl _⟩, ⟨_, rfl, .refl _⟩, trivial⟩ ⟨⟨rfl, _, rfl, .refl _⟩, trivial⟩ ?_
        refine rQ (call_r (exe_is era hera) rfl rfl (arg_e arg_nil) (.inl rfl) (fun _ => rfl)) ?_;refine reg_new (build_slice (s := 1) tab_ok rfl rfl rfl rfl rfl rfl rfl rfl) rfl ?_
        refine reg_new2 (append_one (enc := encHX) (s := 1) (xs := out) tab_ok era rfl rfl rfl rfl rfl rfl rfl rfl rfl hout rfl) rfl ?_;refine rC ?_;refine nR ?_;refine rC ?_
        refine nS ?_;refine wc_exit ?_;refine seq_x ?_;refine blk_x ?_;refine seq_n ?_;refine wc_region ?_;refine rQ iD ?_;refine rC ?_;refine reg_nil ?_
        have hl1 : out.length + 1 = (out ++ [era]).length := by simp
        exact loop_n (i + 1, out ++ [era], []) [(65, some _), (66, none)] ⟨hlt, by simp; omega, Nat.zero_le _, hst.symm⟩ (by show h.length - (i + 1) < h.length - i; omega) (.of rfl rfl rfl rfl rfl ⟨⟨_, rfl, .refl _⟩, rfl, ⟨_, rfl, .refl _⟩, rfl, ⟨_, rfl, .refl _⟩, rfl, ⟨_, rfl, .refl _⟩, rfl, ⟨_, rfl, AVLe.of_eq (congrArg (fun n => AV.own _ 0 n 1 none) hl1)⟩, rfl, trivial⟩ ⟨⟨rfl, rfl, _, rfl, .refl _⟩, ⟨rfl, rfl, rfl⟩, trivial⟩)
      · have d3 : decide (x.kind = 3) = false := decide_eq_false k3
        rw [if_neg k3] at hst
        refine kS ?_;refine wc_seq ?_;refine wc_block ?_;refine sR ?_;refine rQ (index_arr tab_ok rfl rfl rfl rfl rfl (by omega) hx') ?_;refine rQ iL ?_;refine rN ?_;refine rW ?_
        refine nQ ?_;refine sR ?_;refine rC ?_;refine rQ iB ?_;refine rC ?_;refine nS ?_;refine wF ?_;refine kS ?_;refine wc_region ?_;refine rC ?_;refine rQ iM ?_;refine rQ (call_r (own_is x hdx) rfl rfl (arg_e arg_nil) (.inl rfl) (fun _ => rfl)) ?_
        refine reg_new (build_slice (s := 38) tab_ok rfl rfl rfl rfl rfl rfl rfl rfl) rfl ?_;refine reg_new2 (append_one (enc := encEv) (s := 38) (xs := era) tab_ok x rfl rfl rfl rfl rfl rfl rfl rfl rfl hera1 rfl) rfl ?_
        refine rC ?_;refine reg_nil ?_;refine blk_n ?_;refine seq_n ?_;refine wc_region ?_;refine rQ iD ?_;refine rC ?_;refine reg_nil ?_
        have hl2 : era.length + 1 = (era ++ [x]).length := by simp
        exact loop_n (i + 1, out, era ++ [x]) [(65, some 65), (66, some _)] ⟨hlt, by simp only; omega, by simp; omega, hst.symm⟩ (by show h.length - (i + 1) < h.length - i; omega) (.of rfl rfl rfl rfl rfl ⟨⟨_, rfl, .refl _⟩, rfl, ⟨_, rfl, .refl _⟩, rfl, ⟨_, rfl, .refl _⟩, rfl, ⟨_, rfl, AVLe.of_eq (congrArg (fun n => AV.own _ 0 n 38 none) hl2)⟩, rfl, ⟨_, rfl, .refl _⟩, rfl, trivial⟩ ⟨⟨rfl, rfl, _, rfl, .refl _⟩, ⟨rfl, rfl, _, rfl, .refl _⟩, trivial⟩)
    · have hi2 : i = h.length := by have := of_decide_eq_false h2; omega
      subst hi2
      rw [List.drop_length] at hgo
      rw [← hgo]
      refine wc_exit ?_;refine seq_x ?_;refine loop_x ?_;refine blk_x ?_;refine seq_n ?_;refine sR ?_;iterate 2 refine rC ?_
      refine reg_freeze (env' := [(39, _), (38, _)]) (h' := [(65, some _)]) 66 _ rfl ⟨⟨_, rfl, Frz.own rfl⟩, ⟨_, rfl, .refl _⟩, trivial⟩ ⟨⟨rfl, _, rfl, .refl _⟩, trivial⟩ ?_
      refine rQ (call_r (exe_is era hera) rfl rfl (arg_e arg_nil) (.inl rfl) (fun _ => rfl)) ?_;refine reg_new (build_slice (s := 1) tab_ok rfl rfl rfl rfl rfl rfl rfl rfl) rfl ?_
      refine reg_new2 (append_one (enc := encHX) (s := 1) (xs := out) tab_ok era rfl rfl rfl rfl rfl rfl rfl rfl rfl hout rfl) rfl ?_;refine reg_freeze (env' := [(42, _)]) (h' := []) 112 _ rfl ⟨⟨_, rfl, Frz.own (by simp)⟩, trivial⟩ trivial ?_
      refine rQ (call_r (exh_is (out ++ [era]) hout2) rfl rfl (arg_e arg_nil) (.inl rfl) (fun _ => rfl)) ?_;iterate 2 refine rC ?_
      refine nS ?_;refine wc_ret ?_
      exact ⟨trivial, [], lf⟩
  · have d0 : (!decide ((chkH h).2 = 0)) = true := by rw [decide_eq_false h0]; rfl
    rw [if_neg h0]
    refine fnIs_of tab_ok Tryz.func22 rfl rfl rfl ?_;refine sR ?_;iterate 2 refine rC ?_
    refine nQ ?_;refine sR ?_;refine rC ?_;refine rQ (call_r (hcheck_is h hh) rfl rfl (arg_e arg_nil) (.inl rfl) (fun _ => rfl)) ?_;iterate 5 refine rC ?_
    refine nR ?_;iterate 2 refine rC ?_
    refine nS ?_;refine wT ?_;refine sR ?_;iterate 3 refine rC ?_
    refine nS ?_;refine wc_ret ?_;refine seq_r ?_
    exact ⟨trivial, [], .of rfl rfl rfl rfl rfl ⟨⟨_, rfl, AVLe.tup1 (nil_arx _ _) rfl⟩, rfl, trivial⟩ trivial⟩
def projB (c : Int) (x : HEv) : Bool := decide (x.kind = 3) || decide (x.client = c)
def projE (c : Int) (h : List HEv) : Int := if (chkH h).2 = 0 then (if c < 0 ∨ 8 ≤ c then 1 else 0) else (chkH h).2
theorem hproj_is (h : List HEv) (c : Int) (hh : h.length ≤ 1000000) (hd : ∀ x ∈ h, x.op.data.length ≤ 1048576) : FnIs Tryz.prog 23 [.d (encH h), .int .i64 c] [] (.tup (.acons (.d (encHX (if projE c h = 0 then h.filter (projB c) else []))) (.acons (.int .i64 (projE c h)) .anil))) [] := by
  have hh : h.length ≤ 9223372036854775807 := by omega
  by_cases h0 : (chkH h).2 = 0
  · have d0 : (!decide ((chkH h).2 = 0)) = false := by rw [decide_eq_true h0]; rfl
    by_cases hc0 : c < 0
    · have c0 : decide (c < 0) = true := decide_eq_true hc0
      rw [show projE c h = 1 by rw [projE, if_pos h0, if_pos (.inl hc0)], if_neg (by decide)]
      refine fnIs_of tab_ok Tryz.func23 rfl rfl rfl ?_;refine sR ?_;iterate 2 refine rC ?_
      refine nQ ?_;refine sR ?_;refine rC ?_;refine rQ (call_r (hcheck_is h hh) rfl rfl (arg_e arg_nil) (.inl rfl) (fun _ => rfl)) ?_;iterate 5 refine rC ?_
      refine nR ?_;iterate 2 refine rC ?_
      refine nS ?_;refine wF ?_;refine kS ?_;refine qR ?_;iterate 3 refine rC ?_
      iterate 2 refine rS ?_
      refine rQ iT ?_;refine nS ?_;refine wV ?_;refine sR ?_;iterate 2 refine rC ?_
      refine nS ?_;refine wc_ret ?_;refine seq_r ?_
      exact ⟨trivial, [], .of rfl rfl rfl rfl rfl ⟨⟨_, rfl, AVLe.tup1 (nil_arx _ _) rfl⟩, rfl, trivial⟩ trivial⟩
    · have c0 : decide (c < 0) = false := decide_eq_false hc0
      by_cases hc8 : 8 ≤ c
      · have c8 : decide (8 ≤ c) = true := decide_eq_true hc8
        rw [show projE c h = 1 by rw [projE, if_pos h0, if_pos (.inr hc8)], if_neg (by decide)]
        refine fnIs_of tab_ok Tryz.func23 rfl rfl rfl ?_;refine sR ?_;iterate 2 refine rC ?_
        refine nQ ?_;refine sR ?_;refine rC ?_;refine rQ (call_r (hcheck_is h hh) rfl rfl (arg_e arg_nil) (.inl rfl) (fun _ => rfl)) ?_;iterate 5 refine rC ?_
        refine nR ?_;iterate 2 refine rC ?_
        refine nS ?_;refine wF ?_;refine kS ?_;refine qR ?_;iterate 3 refine rC ?_
        refine rO ?_;refine rC ?_;refine rO ?_;refine rC ?_;refine rQ iF ?_;refine nS ?_;refine wT ?_;refine sR ?_;iterate 2 refine rC ?_
        refine nS ?_;refine wc_ret ?_;refine seq_r ?_
        exact ⟨trivial, [], .of rfl rfl rfl rfl rfl ⟨⟨_, rfl, AVLe.tup1 (nil_arx _ _) rfl⟩, rfl, trivial⟩ trivial⟩
      · have c8 : decide (8 ≤ c) = false := decide_eq_false hc8
        rw [show projE c h = 0 by rw [projE, if_pos h0, if_neg (by omega)], if_pos rfl]
        refine fnIs_of tab_ok Tryz.func23 rfl rfl rfl ?_;refine sR ?_;iterate 2 refine rC ?_
        refine nQ ?_;refine sR ?_;refine rC ?_;refine rQ (call_r (hcheck_is h hh) rfl rfl (arg_e arg_nil) (.inl rfl) (fun _ => rfl)) ?_;iterate 5 refine rC ?_
        refine nR ?_;iterate 2 refine rC ?_
        refine nS ?_;refine wF ?_;refine kS ?_;refine qR ?_;iterate 3 refine rC ?_
        refine rO ?_;refine rC ?_;refine rO ?_;refine rC ?_;refine rQ iF ?_;refine nS ?_;refine wF ?_;refine kS ?_;refine sR ?_;refine rC ?_;refine nQ ?_;refine sR ?_;refine rC ?_
        refine rQ iE ?_;refine rC ?_;refine nS ?_;refine wc_block ?_
        refine wc_inv (fun i : Nat => ⟨[(27, .int .i64 i), (26, .int .i64 h.length), (25, .d (encH h)), (8, .own 65 0 ((h.take i).filter (projB c)).length 38 none), (1, .int .i64 c)], [(65, some (.ds 59 38 false encEv ((h.take i).filter (projB c))))], 72, Tryz.f23.ntmps, 64⟩) (fun i => i ≤ h.length) (fun i => h.length - i) 0 [(65, none)] (Nat.zero_le _)
          (.of rfl rfl rfl rfl rfl ⟨⟨_, rfl, .refl _⟩, rfl, ⟨_, rfl, .refl _⟩, rfl, ⟨_, rfl, .refl _⟩, rfl, ⟨_, rfl, .refl _⟩, rfl, ⟨_, rfl, .refl _⟩, rfl, trivial⟩ ⟨⟨rfl, rfl, rfl⟩, trivial⟩) ?_
        intro i hi
        have hlen : ((h.take i).filter (projB c)).length ≤ i := Nat.le_trans (List.length_filter_le _ _) (by rw [List.length_take]; omega)
        have hera1 : ((h.take i).filter (projB c)).length + 1 ≤ 1048576 := by omega
        refine wc_of ?_;refine sR ?_;refine rC ?_;refine nQ ?_
        refine wc_cond rfl (fun h2 => ?_) (fun h2 => ?_)
        · have hlt : i < h.length := by have := of_decide_eq_true h2; omega
          obtain ⟨x, hx⟩ : ∃ u, h[i]? = some u := ⟨_, List.getElem?_eq_getElem hlt⟩
          have hx' : h[((i : Int)).toNat]? = some x := by rw [Int.toNat_natCast]; exact hx
          have hdx := hd x (List.mem_of_getElem? hx)
          have htk : h.take (i + 1) = h.take i ++ [x] := by rw [List.take_add_one, hx]; rfl
          obtain ⟨c1, h1⟩ : ∃ b, decide (x.kind = 3) = b := ⟨_, rfl⟩
          obtain ⟨c2, h2⟩ : ∃ b, decide (x.client = c) = b := ⟨_, rfl⟩
          cases c1 with
          | true =>
            have hf : (h.take (i + 1)).filter (projB c) = (h.take i).filter (projB c) ++ [x] := by rw [htk, List.filter_append]; simp [projB, h1]
            have hl1 : ((h.take i).filter (projB c)).length + 1 = ((h.take (i + 1)).filter (projB c)).length := by rw [hf]; simp
            refine kS ?_;refine wc_seq ?_;refine wc_block ?_;refine sR ?_;refine rQ (index_arr tab_ok rfl rfl rfl rfl rfl (by omega) hx') ?_;refine rQ iL ?_;refine rN ?_;refine rW ?_
            refine nR ?_;refine rC ?_;refine rQ iB ?_;iterate 2 refine rC ?_
            iterate 4 refine rS ?_
            refine rQ iT ?_;refine nS ?_;refine wV ?_;refine wc_region ?_;refine rC ?_;refine rQ iM ?_;refine rQ (call_r (own_is x hdx) rfl rfl (arg_e arg_nil) (.inl rfl) (fun _ => rfl)) ?_
            refine reg_new (build_slice (s := 38) tab_ok rfl rfl rfl rfl rfl rfl rfl rfl) rfl ?_;refine reg_new2 (append_one (enc := encEv) (s := 38) (xs := (h.take i).filter (projB c)) tab_ok x rfl rfl rfl rfl rfl rfl rfl rfl rfl hera1 rfl) rfl ?_
            refine rC ?_;refine reg_nil ?_;refine blk_n ?_;refine seq_n ?_;refine wc_region ?_;refine rQ iD ?_;refine rC ?_;refine reg_nil ?_
            exact loop_n (i + 1) [(65, some _)] hlt (by omega) (.of rfl rfl rfl rfl rfl ⟨⟨_, rfl, .refl _⟩, rfl, ⟨_, rfl, .refl _⟩, rfl, ⟨_, rfl, .refl _⟩, rfl, ⟨_, rfl, AVLe.of_eq (congrArg (fun n => AV.own _ 0 n 38 none) hl1)⟩, rfl, ⟨_, rfl, .refl _⟩, rfl, trivial⟩ ⟨⟨rfl, rfl, _, rfl, RowLe.of_eq (congrArg (fun l => Row.ds 59 38 false encEv l) hf.symm)⟩, trivial⟩)
          | false =>
            cases c2 with
            | true =>
              have hf : (h.take (i + 1)).filter (projB c) = (h.take i).filter (projB c) ++ [x] := by rw [htk, List.filter_append]; simp [projB, h1, h2]
              have hl1 : ((h.take i).filter (projB c)).length + 1 = ((h.take (i + 1)).filter (projB c)).length := by rw [hf]; simp
              refine kS ?_;refine wc_seq ?_;refine wc_block ?_;refine sR ?_;refine rQ (index_arr tab_ok rfl rfl rfl rfl rfl (by omega) hx') ?_;refine rQ iL ?_;refine rN ?_;refine rW ?_
              refine nR ?_;refine rC ?_;refine rQ iB ?_;iterate 2 refine rC ?_
              refine rO ?_;refine rC ?_;refine rO ?_;refine rQ iB ?_;refine rO ?_;refine rC ?_;refine rO ?_;refine rC ?_;refine rQ iF ?_;refine nS ?_;refine wT ?_;refine wc_region ?_
              refine rC ?_;refine rQ iM ?_;refine rQ (call_r (own_is x hdx) rfl rfl (arg_e arg_nil) (.inl rfl) (fun _ => rfl)) ?_;refine reg_new (build_slice (s := 38) tab_ok rfl rfl rfl rfl rfl rfl rfl rfl) rfl ?_
              refine reg_new2 (append_one (enc := encEv) (s := 38) (xs := (h.take i).filter (projB c)) tab_ok x rfl rfl rfl rfl rfl rfl rfl rfl rfl hera1 rfl) rfl ?_;refine rC ?_
              refine reg_nil ?_;refine blk_n ?_;refine seq_n ?_;refine wc_region ?_;refine rQ iD ?_;refine rC ?_;refine reg_nil ?_
              exact loop_n (i + 1) [(65, some _)] hlt (by omega) (.of rfl rfl rfl rfl rfl ⟨⟨_, rfl, .refl _⟩, rfl, ⟨_, rfl, .refl _⟩, rfl, ⟨_, rfl, .refl _⟩, rfl, ⟨_, rfl, AVLe.of_eq (congrArg (fun n => AV.own _ 0 n 38 none) hl1)⟩, rfl, ⟨_, rfl, .refl _⟩, rfl, trivial⟩ ⟨⟨rfl, rfl, _, rfl, RowLe.of_eq (congrArg (fun l => Row.ds 59 38 false encEv l) hf.symm)⟩, trivial⟩)
            | false =>
              have hf : (h.take i).filter (projB c) = (h.take (i + 1)).filter (projB c) := by rw [htk, List.filter_append]; simp [projB, h1, h2]
              refine kS ?_;refine wc_seq ?_;refine wc_block ?_;refine sR ?_;refine rQ (index_arr tab_ok rfl rfl rfl rfl rfl (by omega) hx') ?_;refine rQ iL ?_;refine rN ?_;refine rW ?_
              refine nR ?_;refine rC ?_;refine rQ iB ?_;iterate 2 refine rC ?_
              refine rO ?_;refine rC ?_;refine rO ?_;refine rQ iB ?_;refine rO ?_;refine rC ?_;refine rO ?_;refine rC ?_;refine rQ iF ?_;refine nS ?_;refine wF ?_;refine wc_skip ?_
              refine blk_n ?_;refine seq_n ?_;refine wc_region ?_;refine rQ iD ?_;refine rC ?_;refine reg_nil ?_
              exact loop_n (i + 1) [(65, some 65)] hlt (by omega) (.of rfl rfl rfl rfl rfl ⟨⟨_, rfl, .refl _⟩, rfl, ⟨_, rfl, .refl _⟩, rfl, ⟨_, rfl, .refl _⟩, rfl, ⟨_, rfl, AVLe.of_eq (congrArg (fun l : List HEv => AV.own 65 0 l.length 38 none) hf)⟩, rfl, ⟨_, rfl, .refl _⟩, rfl, trivial⟩ ⟨⟨rfl, rfl, _, rfl, RowLe.of_eq (congrArg (fun l => Row.ds 59 38 false encEv l) hf)⟩, trivial⟩)
        · have hi2 : i = h.length := by have := of_decide_eq_false h2; omega
          subst hi2
          rw [List.take_length]
          have hera : (h.filter (projB c)).length ≤ 1048576 := Nat.le_trans (List.length_filter_le _ _) (by omega)
          refine wc_exit ?_;refine seq_x ?_;refine loop_x ?_;refine blk_x ?_;refine seq_n ?_;refine sR ?_;refine rC ?_;refine reg_freeze (env' := [(46, _)]) (h' := []) 65 _ rfl ⟨⟨_, rfl, Frz.own rfl⟩, trivial⟩ trivial ?_
          refine rQ (call_r (exe_is (h.filter (projB c)) hera) rfl rfl (arg_e arg_nil) (.inl rfl) (fun _ => rfl)) ?_;iterate 2 refine rC ?_
          refine nS ?_;refine wc_ret ?_
          exact ⟨trivial, [], lf⟩
  · have d0 : (!decide ((chkH h).2 = 0)) = true := by rw [decide_eq_false h0]; rfl
    have hE : projE c h = (chkH h).2 := by rw [projE, if_neg h0]
    rw [hE, if_neg h0]
    refine fnIs_of tab_ok Tryz.func23 rfl rfl rfl ?_;refine sR ?_;iterate 2 refine rC ?_
    refine nQ ?_;refine sR ?_;refine rC ?_;refine rQ (call_r (hcheck_is h hh) rfl rfl (arg_e arg_nil) (.inl rfl) (fun _ => rfl)) ?_;iterate 5 refine rC ?_
    refine nR ?_;iterate 2 refine rC ?_
    refine nS ?_;refine wT ?_;refine sR ?_;iterate 3 refine rC ?_
    refine nS ?_;refine wc_ret ?_;refine seq_r ?_
    exact ⟨trivial, [], .of rfl rfl rfl rfl rfl ⟨⟨_, rfl, AVLe.tup1 (nil_arx _ _) rfl⟩, rfl, trivial⟩ trivial⟩
end Go.Proofs.YtmojbghcngdkpaaGreatDoor

namespace Go.Proofs.YtmojbghcngdkpaaGreatDoor
open Go.Eng Go.Plain
set_option maxHeartbeats 8000000
set_option maxRecDepth 20000
attribute [local irreducible] WC RegS RegD SeqQ BlkQ ScoQ RegK CutK Sat SatN FnIs LoopQ StepIs OpIs
def pstep (c : Int) (i : Nat) (a : Int) (x : HEv) : Int := if x.kind = 3 then -1 else if x.kind = 1 then (if x.client = c then (i : Int) else a) else if x.kind = 2 then (if x.client = c then -1 else a) else a
def pendG (c : Int) : List HEv → Nat → Int → Int
  | [], _, a => a
  | x :: l, i, a => pendG c l (i + 1) (pstep c i a x)
def pend (h : List HEv) (c : Int) : Int := pendG c h 0 (-1)
theorem pendG_snoc (c : Int) (x : HEv) : ∀ (l : List HEv) (i : Nat) (a : Int), pendG c (l ++ [x]) i a = pstep c (i + l.length) (pendG c l i a) x
  | [], i, a => rfl
  | y :: l, i, a => by
    rw [List.cons_append, pendG, pendG, pendG_snoc c x l]
    rw [List.length_cons, show i + 1 + l.length = i + (l.length + 1) by omega]
theorem pend_snoc (l : List HEv) (c : Int) (x : HEv) : pend (l ++ [x]) c = pstep c l.length (pend l c) x := by
  rw [pend, pendG_snoc, Nat.zero_add]; rfl
theorem pend_take {h : List HEv} {c : Int} {i : Nat} {x : HEv} (hx : h[i]? = some x) : pend (h.take (i + 1)) c = pstep c i (pend (h.take i) c) x := by
  have hlt := (List.getElem?_eq_some_iff.1 hx).1
  rw [List.take_add_one, hx, Option.toList_some, pend_snoc, List.length_take, Nat.min_eq_left (by omega)]
theorem pstep_or (c : Int) (i : Nat) (a : Int) (x : HEv) : pstep c i a x = -1 ∨ pstep c i a x = i ∨ pstep c i a x = a := by
  unfold pstep
  by_cases h1 : x.kind = 3
  · simp [h1]
  · by_cases h2 : x.kind = 1
    · by_cases h3 : x.client = c <;> simp [h2, h3]
    · by_cases h4 : x.kind = 2
      · by_cases h3 : x.client = c <;> simp [h4, h3]
      · simp [h1, h2, h4]
theorem pend_lt (c : Int) : ∀ (l : List HEv) (i : Nat) (a : Int), -1 ≤ a ∧ a < i → -1 ≤ pendG c l i a ∧ pendG c l i a < (i + l.length : Nat)
  | [], i, a, h => by simpa [pendG] using h
  | x :: l, i, a, h => by
    have hs := pstep_or c i a x
    have := pend_lt c l (i + 1) (pstep c i a x) (by omega)
    rw [pendG, List.length_cons]
    omega
theorem pend_in (h : List HEv) (c : Int) : -1 ≤ pend h c ∧ pend h c < h.length := by
  have := pend_lt c h 0 (-1) (by decide)
  rw [Nat.zero_add] at this
  exact this
theorem pend_is (h : List HEv) (c : Int) (hL : h.length ≤ 9223372036854775807) : FnIs Tryz.prog 64 [.d (encH h), .int .i64 c] [] (.int .i64 (pend h c)) [] := by
  refine fnIs_of tab_ok Tryz.func64 rfl rfl rfl ?_;refine sR ?_;refine rC ?_;refine nR ?_;refine rC ?_;refine nQ ?_;refine sR ?_;refine rC ?_;refine nS ?_;refine wc_block ?_
  refine wc_inv (fun i : Nat => ⟨[(6, .int .i64 i), (5, .int .i64 (pend (h.take i) c)), (1, .int .i64 c), (0, .d (encH h))], [], 72, Tryz.f64.ntmps, 64⟩) (fun i => i ≤ h.length) (fun i => h.length - i) 0 [] (Nat.zero_le _)
    (.of rfl rfl rfl rfl rfl ⟨⟨_, rfl, .refl _⟩, rfl, ⟨_, rfl, .refl _⟩, rfl, ⟨_, rfl, .refl _⟩, rfl, ⟨_, rfl, .refl _⟩, rfl, trivial⟩ trivial) ?_
  intro i hi
  refine wc_of ?_;refine qR ?_;iterate 2 refine rC ?_
  refine rQ iE ?_;refine rC ?_;refine nS ?_
  refine wc_cond rfl (fun h3 => ?_) (fun h3 => ?_)
  · have hlt : i < h.length := by have := of_decide_eq_true h3; omega
    obtain ⟨x, hx⟩ : ∃ x, h[i]? = some x := ⟨_, List.getElem?_eq_getElem hlt⟩
    have hx' : h[((i : Int)).toNat]? = some x := by rw [Int.toNat_natCast]; exact hx
    have hp := pend_take (c := c) hx
    unfold pstep at hp
    by_cases k3 : x.kind = 3
    · have d3 : decide (x.kind = 3) = true := decide_eq_true k3
      have d1 : decide (x.kind = 1) = false := decide_eq_false (by omega)
      have d2 : decide (x.kind = 2) = false := decide_eq_false (by omega)
      rw [if_pos k3] at hp
      refine kS ?_;refine wc_seq ?_;refine wc_block ?_;refine qR ?_;iterate 2 refine rC ?_
      refine rQ (index_arr tab_ok rfl rfl rfl rfl rfl (by omega) hx') ?_;refine rC ?_;refine rQ iL ?_;refine rC ?_;refine nS ?_;refine wT ?_;refine wc_region ?_;refine rC ?_
      refine nQ ?_;refine sR ?_;iterate 2 refine rC ?_
      refine rQ (index_arr tab_ok rfl rfl rfl rfl rfl (by omega) hx') ?_;refine rC ?_;refine rQ iL ?_;iterate 2 refine rC ?_
      iterate 7 refine rS ?_
      refine rQ iF ?_;refine nS ?_;refine wG ?_;refine kS ?_;refine sR ?_;iterate 2 refine rC ?_
      refine rQ (index_arr tab_ok rfl rfl rfl rfl rfl (by omega) hx') ?_;refine rC ?_;refine rQ iL ?_;iterate 2 refine rC ?_
      iterate 7 refine rS ?_
      refine rQ iF ?_;refine nS ?_;refine wG ?_;refine wc_skip ?_;refine blk_n ?_;refine seq_n ?_;refine wc_region ?_;refine rC ?_;refine rQ iD ?_;refine rC ?_;refine reg_nil ?_
      exact loop_n (i + 1) [] hlt (by omega) (.of rfl rfl rfl rfl rfl ⟨⟨_, rfl, .refl _⟩, rfl, ⟨_, rfl, AVLe.of_eq (congrArg (fun n => AV.int .i64 n) hp.symm)⟩, rfl, ⟨_, rfl, .refl _⟩, rfl, ⟨_, rfl, .refl _⟩, rfl, trivial⟩ trivial)
    · have d3 : decide (x.kind = 3) = false := decide_eq_false k3
      rw [if_neg k3] at hp
      by_cases k1 : x.kind = 1
      · have d1 : decide (x.kind = 1) = true := decide_eq_true k1
        have d2 : decide (x.kind = 2) = false := decide_eq_false (by omega)
        rw [if_pos k1] at hp
        by_cases kc : x.client = c
        · have dc : decide (x.client = c) = true := decide_eq_true kc
          rw [if_pos kc] at hp
          refine kS ?_;refine wc_seq ?_;refine wc_block ?_;refine qR ?_;iterate 2 refine rC ?_
          refine rQ (index_arr tab_ok rfl rfl rfl rfl rfl (by omega) hx') ?_;refine rC ?_;refine rQ iL ?_;refine rC ?_;refine nS ?_;refine wF ?_;refine kS ?_;refine qR ?_
          iterate 2 refine rC ?_
          refine rQ (index_arr tab_ok rfl rfl rfl rfl rfl (by omega) hx') ?_;refine rC ?_;refine rQ iL ?_;iterate 2 refine rC ?_
          refine rO ?_;refine rC ?_;refine rO ?_;refine rC ?_;refine rO ?_;refine rQ (index_arr tab_ok rfl rfl rfl rfl rfl (by omega) hx') ?_;refine rO ?_;refine rC ?_;refine rO ?_
          refine rQ iL ?_;refine rO ?_;refine rC ?_;refine rO ?_;refine rC ?_;refine rQ iT ?_;refine nS ?_;refine wT ?_;refine wc_region ?_;iterate 2 refine rC ?_
          refine nR ?_;iterate 2 refine rC ?_
          refine rQ (index_arr tab_ok rfl rfl rfl rfl rfl (by omega) hx') ?_;refine rC ?_;refine rQ iL ?_;iterate 2 refine rC ?_
          iterate 7 refine rS ?_
          refine rQ iF ?_;refine nS ?_;refine wG ?_;refine wc_skip ?_;refine blk_n ?_;refine seq_n ?_;refine wc_region ?_;refine rC ?_;refine rQ iD ?_;refine rC ?_;refine reg_nil ?_
          exact loop_n (i + 1) [] hlt (by omega) (.of rfl rfl rfl rfl rfl ⟨⟨_, rfl, .refl _⟩, rfl, ⟨_, rfl, AVLe.of_eq (congrArg (fun n => AV.int .i64 n) hp.symm)⟩, rfl, ⟨_, rfl, .refl _⟩, rfl, ⟨_, rfl, .refl _⟩, rfl, trivial⟩ trivial)
        · have dc : decide (x.client = c) = false := decide_eq_false kc
          rw [if_neg kc] at hp
          refine kS ?_;refine wc_seq ?_;refine wc_block ?_;refine qR ?_;iterate 2 refine rC ?_
          refine rQ (index_arr tab_ok rfl rfl rfl rfl rfl (by omega) hx') ?_;refine rC ?_;refine rQ iL ?_;refine rC ?_;refine nS ?_;refine wF ?_;refine kS ?_;refine qR ?_
          iterate 2 refine rC ?_
          refine rQ (index_arr tab_ok rfl rfl rfl rfl rfl (by omega) hx') ?_;refine rC ?_;refine rQ iL ?_;iterate 2 refine rC ?_
          refine rO ?_;refine rC ?_;refine rO ?_;refine rC ?_;refine rO ?_;refine rQ (index_arr tab_ok rfl rfl rfl rfl rfl (by omega) hx') ?_;refine rO ?_;refine rC ?_;refine rO ?_
          refine rQ iL ?_;refine rO ?_;refine rC ?_;refine rO ?_;refine rC ?_;refine rQ iT ?_;refine nS ?_;refine wF ?_;refine kS ?_;refine sR ?_;iterate 2 refine rC ?_
          refine rQ (index_arr tab_ok rfl rfl rfl rfl rfl (by omega) hx') ?_;refine rC ?_;refine rQ iL ?_;iterate 2 refine rC ?_
          iterate 7 refine rS ?_
          refine rQ iF ?_;refine nS ?_;refine wG ?_;refine wc_skip ?_;refine blk_n ?_;refine seq_n ?_;refine wc_region ?_;refine rC ?_;refine rQ iD ?_;refine rC ?_;refine reg_nil ?_
          exact loop_n (i + 1) [] hlt (by omega) (.of rfl rfl rfl rfl rfl ⟨⟨_, rfl, .refl _⟩, rfl, ⟨_, rfl, AVLe.of_eq (congrArg (fun n => AV.int .i64 n) hp.symm)⟩, rfl, ⟨_, rfl, .refl _⟩, rfl, ⟨_, rfl, .refl _⟩, rfl, trivial⟩ trivial)
      · have d1 : decide (x.kind = 1) = false := decide_eq_false k1
        rw [if_neg k1] at hp
        by_cases k2 : x.kind = 2
        · have d2 : decide (x.kind = 2) = true := decide_eq_true k2
          rw [if_pos k2] at hp
          by_cases kc : x.client = c
          · have dc : decide (x.client = c) = true := decide_eq_true kc
            rw [if_pos kc] at hp
            refine kS ?_;refine wc_seq ?_;refine wc_block ?_;refine qR ?_;iterate 2 refine rC ?_
            refine rQ (index_arr tab_ok rfl rfl rfl rfl rfl (by omega) hx') ?_;refine rC ?_;refine rQ iL ?_;refine rC ?_;refine nS ?_;refine wF ?_;refine kS ?_;refine qR ?_
            iterate 2 refine rC ?_
            refine rQ (index_arr tab_ok rfl rfl rfl rfl rfl (by omega) hx') ?_;refine rC ?_;refine rQ iL ?_;iterate 2 refine rC ?_
            iterate 7 refine rS ?_
            refine rQ iF ?_;refine nS ?_;refine wG ?_;refine kS ?_;refine sR ?_;iterate 2 refine rC ?_
            refine rQ (index_arr tab_ok rfl rfl rfl rfl rfl (by omega) hx') ?_;refine rC ?_;refine rQ iL ?_;iterate 2 refine rC ?_
            refine rO ?_;refine rC ?_;refine rO ?_;refine rC ?_;refine rO ?_;refine rQ (index_arr tab_ok rfl rfl rfl rfl rfl (by omega) hx') ?_;refine rO ?_;refine rC ?_;refine rO ?_
            refine rQ iL ?_;refine rO ?_;refine rC ?_;refine rO ?_;refine rC ?_;refine rQ iT ?_;refine nS ?_;refine wT ?_;refine wc_region ?_;refine rC ?_;refine reg_nil ?_
            refine blk_n ?_;refine seq_n ?_;refine wc_region ?_;refine rC ?_;refine rQ iD ?_;refine rC ?_;refine reg_nil ?_
            exact loop_n (i + 1) [] hlt (by omega) (.of rfl rfl rfl rfl rfl ⟨⟨_, rfl, .refl _⟩, rfl, ⟨_, rfl, AVLe.of_eq (congrArg (fun n => AV.int .i64 n) hp.symm)⟩, rfl, ⟨_, rfl, .refl _⟩, rfl, ⟨_, rfl, .refl _⟩, rfl, trivial⟩ trivial)
          · have dc : decide (x.client = c) = false := decide_eq_false kc
            rw [if_neg kc] at hp
            refine kS ?_;refine wc_seq ?_;refine wc_block ?_;refine qR ?_;iterate 2 refine rC ?_
            refine rQ (index_arr tab_ok rfl rfl rfl rfl rfl (by omega) hx') ?_;refine rC ?_;refine rQ iL ?_;refine rC ?_;refine nS ?_;refine wF ?_;refine kS ?_;refine qR ?_
            iterate 2 refine rC ?_
            refine rQ (index_arr tab_ok rfl rfl rfl rfl rfl (by omega) hx') ?_;refine rC ?_;refine rQ iL ?_;iterate 2 refine rC ?_
            iterate 7 refine rS ?_
            refine rQ iF ?_;refine nS ?_;refine wG ?_;refine kS ?_;refine sR ?_;iterate 2 refine rC ?_
            refine rQ (index_arr tab_ok rfl rfl rfl rfl rfl (by omega) hx') ?_;refine rC ?_;refine rQ iL ?_;iterate 2 refine rC ?_
            refine rO ?_;refine rC ?_;refine rO ?_;refine rC ?_;refine rO ?_;refine rQ (index_arr tab_ok rfl rfl rfl rfl rfl (by omega) hx') ?_;refine rO ?_;refine rC ?_;refine rO ?_
            refine rQ iL ?_;refine rO ?_;refine rC ?_;refine rO ?_;refine rC ?_;refine rQ iT ?_;refine nS ?_;refine wF ?_;refine wc_skip ?_;refine blk_n ?_;refine seq_n ?_;refine wc_region ?_
            refine rC ?_;refine rQ iD ?_;refine rC ?_;refine reg_nil ?_
            exact loop_n (i + 1) [] hlt (by omega) (.of rfl rfl rfl rfl rfl ⟨⟨_, rfl, .refl _⟩, rfl, ⟨_, rfl, AVLe.of_eq (congrArg (fun n => AV.int .i64 n) hp.symm)⟩, rfl, ⟨_, rfl, .refl _⟩, rfl, ⟨_, rfl, .refl _⟩, rfl, trivial⟩ trivial)
        · have d2 : decide (x.kind = 2) = false := decide_eq_false k2
          rw [if_neg k2] at hp
          refine kS ?_;refine wc_seq ?_;refine wc_block ?_;refine qR ?_;iterate 2 refine rC ?_
          refine rQ (index_arr tab_ok rfl rfl rfl rfl rfl (by omega) hx') ?_;refine rC ?_;refine rQ iL ?_;refine rC ?_;refine nS ?_;refine wF ?_;refine kS ?_;refine qR ?_
          iterate 2 refine rC ?_
          refine rQ (index_arr tab_ok rfl rfl rfl rfl rfl (by omega) hx') ?_;refine rC ?_;refine rQ iL ?_;iterate 2 refine rC ?_
          iterate 7 refine rS ?_
          refine rQ iF ?_;refine nS ?_;refine wG ?_;refine kS ?_;refine sR ?_;iterate 2 refine rC ?_
          refine rQ (index_arr tab_ok rfl rfl rfl rfl rfl (by omega) hx') ?_;refine rC ?_;refine rQ iL ?_;iterate 2 refine rC ?_
          iterate 7 refine rS ?_
          refine rQ iF ?_;refine nS ?_;refine wG ?_;refine wc_skip ?_;refine blk_n ?_;refine seq_n ?_;refine wc_region ?_;refine rC ?_;refine rQ iD ?_;refine rC ?_;refine reg_nil ?_
          exact loop_n (i + 1) [] hlt (by omega) (.of rfl rfl rfl rfl rfl ⟨⟨_, rfl, .refl _⟩, rfl, ⟨_, rfl, AVLe.of_eq (congrArg (fun n => AV.int .i64 n) hp.symm)⟩, rfl, ⟨_, rfl, .refl _⟩, rfl, ⟨_, rfl, .refl _⟩, rfl, trivial⟩ trivial)
  · have he : i = h.length := by have := of_decide_eq_false h3; omega
    subst he
    rw [List.take_length]
    refine wc_exit ?_;refine seq_x ?_;refine loop_x ?_;refine blk_x ?_;refine seq_n ?_;refine sR ?_;iterate 2 refine rC ?_
    refine nS ?_;refine wc_ret ?_
    exact ⟨trivial, [], lf⟩
end Go.Proofs.YtmojbghcngdkpaaGreatDoor

namespace Go.Proofs.YtmojbghcngdkpaaGreatDoor
open Go.Eng Go.Plain
set_option maxHeartbeats 8000000
set_option maxRecDepth 20000
attribute [local irreducible] WC RegS RegD SeqQ BlkQ ScoQ RegK CutK Sat SatN FnIs LoopQ StepIs OpIs
def fit1 (h : List HEv) (x : HEv) : Bool := decide (0 ≤ x.client) && decide (x.client ≤ 7) && decide (pend h x.client < 0) && decide (x.op.data.length ≤ 64) && decide (x.value = zBk) && decide (x.err = 0)
def fit2 (h : List HEv) (x : HEv) : Bool := decide (0 ≤ x.client) && decide (x.client ≤ 7) && !decide (pend h x.client < 0) && decide (x.op = zOp) && kn4 x.err && ((match h[(pend h x.client).toNat]? with | some y => decide (y.op.kind = 1) && decide (x.err = 0) | none => false) || decide (x.value = zBk))
def fitB (h : List HEv) (x : HEv) : Bool := if x.kind = 1 then fit1 h x else if x.kind = 2 then fit2 h x else if x.kind = 3 then crash1 x else false
abbrev FitIs (h : List HEv) (x : HEv) (b : Bool) : Prop := FnIs Tryz.prog 55 [.d (encH h), .d (encEv x)] [] (.d (i6 (if b then 1 else 0))) []
theorem fit1_w (h : List HEv) (x : HEv) (hL : h.length ≤ 9223372036854775807) (k1 : x.kind = 1) (c1 c2 c3 c4 c5 c6 : Bool) (h1 : decide (0 ≤ x.client) = c1) (h2 : decide (x.client ≤ 7) = c2) (h3 : decide (pend h x.client < 0) = c3) (h4 : decide (((byI x.op.data).length : Int) ≤ 64) = c4) (h5 : decide (x.value = zBk) = c5) (h6 : decide (x.err = 0) = c6) : FitIs h x (c1 && c2 && c3 && c4 && c5 && c6) := by
  have d1 : decide (x.kind = 1) = true := decide_eq_true k1
  have d2 : decide (x.kind = 2) = false := decide_eq_false (by omega)
  have d3 : decide (x.kind = 3) = false := decide_eq_false (by omega)
  have hpd := pend_is h x.client hL
  refine fnIs_of tab_ok Tryz.func55 rfl rfl rfl ?_
  cases c1 with
  | false =>
    refine sR ?_;refine rN ?_;refine rC ?_;refine nR ?_;refine rQ (build_array tab_ok rfl rfl rfl) ?_;refine rN ?_;refine rW ?_;refine nR ?_;refine rC ?_;refine rQ iB ?_
    iterate 2 refine rC ?_
    iterate 3 refine rS ?_
    refine rQ iF ?_;refine rC ?_;refine nQ ?_;refine sR ?_;refine rC ?_;refine rQ iB ?_;refine nS ?_;refine wc_block ?_;refine sR ?_;iterate 2 refine rC ?_
    refine nS ?_;refine wT ?_;refine sR ?_;iterate 2 refine rC ?_
    iterate 5 refine rT ?_
    refine rQ iG ?_;refine rC ?_;iterate 5 refine rT ?_
    refine rQ iG ?_;refine rC ?_;iterate 4 refine rT ?_
    refine rQ iG ?_;refine rC ?_;iterate 3 refine rT ?_
    refine rQ iG ?_;refine nS ?_;refine wG ?_;refine wc_skip ?_;refine blk_n ?_;refine seq_n ?_;refine sR ?_;refine rC ?_;refine nS ?_;refine wc_ret ?_
    exact ⟨trivial, [], lf⟩
  | true =>
    cases c2 with
    | false =>
      refine sR ?_;refine rN ?_;refine rC ?_;refine nR ?_;refine rQ (build_array tab_ok rfl rfl rfl) ?_;refine rN ?_;refine rW ?_;refine nR ?_;refine rC ?_;refine rQ iB ?_
      iterate 2 refine rC ?_
      refine rO ?_;refine rC ?_;refine rO ?_;refine rQ iB ?_;refine rO ?_;refine rC ?_;refine rQ iT ?_;refine rC ?_;refine nQ ?_;refine sR ?_;refine rC ?_;refine rQ iB ?_
      refine nS ?_;refine wc_block ?_;refine sR ?_;iterate 2 refine rC ?_
      refine nS ?_;refine wT ?_;refine sR ?_;iterate 2 refine rC ?_
      iterate 5 refine rS ?_
      refine rQ iF ?_;refine rC ?_;iterate 5 refine rT ?_
      refine rQ iG ?_;refine rC ?_;iterate 4 refine rT ?_
      refine rQ iG ?_;refine rC ?_;iterate 3 refine rT ?_
      refine rQ iG ?_;refine nS ?_;refine wG ?_;refine wc_skip ?_;refine blk_n ?_;refine seq_n ?_;refine sR ?_;refine rC ?_;refine nS ?_;refine wc_ret ?_
      exact ⟨trivial, [], lf⟩
    | true =>
      cases c3 with
      | false =>
        refine sR ?_;refine rN ?_;refine rC ?_;refine nR ?_;refine rQ (build_array tab_ok rfl rfl rfl) ?_;refine rN ?_;refine rW ?_;refine nR ?_;refine rC ?_;refine rQ iB ?_
        iterate 2 refine rC ?_
        refine rO ?_;refine rC ?_;refine rO ?_;refine rQ iB ?_;refine rO ?_;refine rC ?_;refine rQ iT ?_;refine rC ?_;refine nQ ?_;refine sR ?_;refine rC ?_;refine rQ iB ?_
        refine nS ?_;refine wc_block ?_;refine sR ?_;iterate 2 refine rC ?_
        refine nS ?_;refine wT ?_;refine sR ?_;iterate 2 refine rC ?_
        refine rO ?_;refine rC ?_;refine rO ?_;refine rC ?_;refine rO ?_;refine rQ iB ?_;refine rO ?_;refine rQ (call_r hpd rfl rfl (arg_e (arg_e arg_nil)) (.inl rfl) (fun _ => rfl)) ?_
        refine rO ?_;refine rC ?_;refine rQ iT ?_;refine rC ?_;iterate 5 refine rS ?_
        refine rQ iF ?_;refine rC ?_;iterate 4 refine rT ?_
        refine rQ iG ?_;refine rC ?_;iterate 3 refine rT ?_
        refine rQ iG ?_;refine nS ?_;refine wG ?_;refine wc_skip ?_;refine blk_n ?_;refine seq_n ?_;refine sR ?_;refine rC ?_;refine nS ?_;refine wc_ret ?_
        exact ⟨trivial, [], lf⟩
      | true =>
        cases c4 with
        | false =>
          refine sR ?_;refine rN ?_;refine rC ?_;refine nR ?_;refine rQ (build_array tab_ok rfl rfl rfl) ?_;refine rN ?_;refine rW ?_;refine nR ?_;refine rC ?_;refine rQ iB ?_
          iterate 2 refine rC ?_
          refine rO ?_;refine rC ?_;refine rO ?_;refine rQ iB ?_;refine rO ?_;refine rC ?_;refine rQ iT ?_;refine rC ?_;refine nQ ?_;refine sR ?_;refine rC ?_;refine rQ iB ?_
          refine nS ?_;refine wc_block ?_;refine sR ?_;iterate 2 refine rC ?_
          refine nS ?_;refine wT ?_;refine sR ?_;iterate 2 refine rC ?_
          refine rO ?_;refine rC ?_;refine rO ?_;refine rC ?_;refine rO ?_;refine rQ iB ?_;refine rO ?_;refine rQ (call_r hpd rfl rfl (arg_e (arg_e arg_nil)) (.inl rfl) (fun _ => rfl)) ?_
          refine rO ?_;refine rC ?_;refine rQ iT ?_;refine rC ?_;refine rO ?_;refine rC ?_;refine rO ?_;refine rC ?_;refine rO ?_;refine rQ iB ?_;refine rO ?_;refine rQ iE ?_
          refine rO ?_;refine rC ?_;refine rQ iT ?_;refine rC ?_;iterate 4 refine rS ?_
          refine rQ iF ?_;refine rC ?_;iterate 3 refine rT ?_
          refine rQ iG ?_;refine nS ?_;refine wG ?_;refine wc_skip ?_;refine blk_n ?_;refine seq_n ?_;refine sR ?_;refine rC ?_;refine nS ?_;refine wc_ret ?_
          exact ⟨trivial, [], lf⟩
        | true =>
          cases c5 with
          | false =>
            refine sR ?_;refine rN ?_;refine rC ?_;refine nR ?_;refine rQ (build_array tab_ok rfl rfl rfl) ?_;refine rN ?_;refine rW ?_;refine nR ?_;refine rC ?_;refine rQ iB ?_
            iterate 2 refine rC ?_
            refine rO ?_;refine rC ?_;refine rO ?_;refine rQ iB ?_;refine rO ?_;refine rC ?_;refine rQ iT ?_;refine rC ?_;refine nQ ?_;refine sR ?_;refine rC ?_;refine rQ iB ?_
            refine nS ?_;refine wc_block ?_;refine sR ?_;iterate 2 refine rC ?_
            refine nS ?_;refine wT ?_;refine sR ?_;iterate 2 refine rC ?_
            refine rO ?_;refine rC ?_;refine rO ?_;refine rC ?_;refine rO ?_;refine rQ iB ?_;refine rO ?_;refine rQ (call_r hpd rfl rfl (arg_e (arg_e arg_nil)) (.inl rfl) (fun _ => rfl)) ?_
            refine rO ?_;refine rC ?_;refine rQ iT ?_;refine rC ?_;refine rO ?_;refine rC ?_;refine rO ?_;refine rC ?_;refine rO ?_;refine rQ iB ?_;refine rO ?_;refine rQ iE ?_
            refine rO ?_;refine rC ?_;refine rQ iT ?_;refine rC ?_;refine rO ?_;refine rC ?_;refine rO ?_;refine rQ iB ?_;refine rO ?_;refine rQ iM ?_;refine rO ?_;refine rQ (eql_data rfl rfl rfl rfl (by kernel_rfl) (by decide) (block_eq x.value zBk)) ?_
            refine rQ iT ?_;refine rC ?_;iterate 3 refine rS ?_
            refine rQ iF ?_;refine nS ?_;refine wG ?_;refine wc_skip ?_;refine blk_n ?_;refine seq_n ?_;refine sR ?_;refine rC ?_;refine nS ?_;refine wc_ret ?_
            exact ⟨trivial, [], lf⟩
          | true =>
            cases c6 with
            | false =>
              refine sR ?_;refine rN ?_;refine rC ?_;refine nR ?_;refine rQ (build_array tab_ok rfl rfl rfl) ?_;refine rN ?_;refine rW ?_;refine nR ?_;refine rC ?_;refine rQ iB ?_
              iterate 2 refine rC ?_
              refine rO ?_;refine rC ?_;refine rO ?_;refine rQ iB ?_;refine rO ?_;refine rC ?_;refine rQ iT ?_;refine rC ?_;refine nQ ?_;refine sR ?_;refine rC ?_;refine rQ iB ?_
              refine nS ?_;refine wc_block ?_;refine sR ?_;iterate 2 refine rC ?_
              refine nS ?_;refine wT ?_;refine sR ?_;iterate 2 refine rC ?_
              refine rO ?_;refine rC ?_;refine rO ?_;refine rC ?_;refine rO ?_;refine rQ iB ?_;refine rO ?_;refine rQ (call_r hpd rfl rfl (arg_e (arg_e arg_nil)) (.inl rfl) (fun _ => rfl)) ?_
              refine rO ?_;refine rC ?_;refine rQ iT ?_;refine rC ?_;refine rO ?_;refine rC ?_;refine rO ?_;refine rC ?_;refine rO ?_;refine rQ iB ?_;refine rO ?_;refine rQ iE ?_
              refine rO ?_;refine rC ?_;refine rQ iT ?_;refine rC ?_;refine rO ?_;refine rC ?_;refine rO ?_;refine rQ iB ?_;refine rO ?_;refine rQ iM ?_;refine rO ?_;refine rQ (eql_data rfl rfl rfl rfl (by kernel_rfl) (by decide) (block_eq x.value zBk)) ?_
              refine rQ iT ?_;refine rC ?_;refine rO ?_;refine rC ?_;refine rO ?_;refine rQ iB ?_;refine rO ?_;refine rC ?_;refine rQ iT ?_;refine nS ?_;refine wF ?_;refine wc_skip ?_
              refine blk_n ?_;refine seq_n ?_;refine sR ?_;refine rC ?_;refine nS ?_;refine wc_ret ?_
              exact ⟨trivial, [], lf⟩
            | true =>
              refine sR ?_;refine rN ?_;refine rC ?_;refine nR ?_;refine rQ (build_array tab_ok rfl rfl rfl) ?_;refine rN ?_;refine rW ?_;refine nR ?_;refine rC ?_;refine rQ iB ?_
              iterate 2 refine rC ?_
              refine rO ?_;refine rC ?_;refine rO ?_;refine rQ iB ?_;refine rO ?_;refine rC ?_;refine rQ iT ?_;refine rC ?_;refine nQ ?_;refine sR ?_;refine rC ?_;refine rQ iB ?_
              refine nS ?_;refine wc_block ?_;refine sR ?_;iterate 2 refine rC ?_
              refine nS ?_;refine wT ?_;refine sR ?_;iterate 2 refine rC ?_
              refine rO ?_;refine rC ?_;refine rO ?_;refine rC ?_;refine rO ?_;refine rQ iB ?_;refine rO ?_;refine rQ (call_r hpd rfl rfl (arg_e (arg_e arg_nil)) (.inl rfl) (fun _ => rfl)) ?_
              refine rO ?_;refine rC ?_;refine rQ iT ?_;refine rC ?_;refine rO ?_;refine rC ?_;refine rO ?_;refine rC ?_;refine rO ?_;refine rQ iB ?_;refine rO ?_;refine rQ iE ?_
              refine rO ?_;refine rC ?_;refine rQ iT ?_;refine rC ?_;refine rO ?_;refine rC ?_;refine rO ?_;refine rQ iB ?_;refine rO ?_;refine rQ iM ?_;refine rO ?_;refine rQ (eql_data rfl rfl rfl rfl (by kernel_rfl) (by decide) (block_eq x.value zBk)) ?_
              refine rQ iT ?_;refine rC ?_;refine rO ?_;refine rC ?_;refine rO ?_;refine rQ iB ?_;refine rO ?_;refine rC ?_;refine rQ iT ?_;refine nS ?_;refine wT ?_;refine sR ?_
              refine rC ?_;refine nS ?_;refine wc_ret ?_;refine blk_r ?_;refine seq_r ?_
              exact ⟨trivial, [], lf⟩
theorem fit2_is (h : List HEv) (x : HEv) (hL : h.length ≤ 9223372036854775807) (k2 : x.kind = 2) : FitIs h x (fit2 h x) := by
  have d1 : decide (x.kind = 1) = false := decide_eq_false (by omega)
  have d2 : decide (x.kind = 2) = true := decide_eq_true k2
  have d3 : decide (x.kind = 3) = false := decide_eq_false (by omega)
  have hpd := pend_is h x.client hL
  have hpi := pend_in h x.client
  have hz := zero_is x.op
  unfold fit2
  obtain ⟨c1, h1⟩ : ∃ c, decide (0 ≤ x.client) = c := ⟨_, rfl⟩
  rw [h1]
  cases c1 with
  | false =>
    refine fnIs_of tab_ok Tryz.func55 rfl rfl rfl ?_;refine sR ?_;refine rN ?_;refine rC ?_;refine nR ?_;refine rQ (build_array tab_ok rfl rfl rfl) ?_;refine rN ?_;refine rW ?_
    refine nR ?_;refine rC ?_;refine rQ iB ?_;iterate 2 refine rC ?_
    iterate 3 refine rS ?_
    refine rQ iF ?_;refine rC ?_;refine nQ ?_;refine sR ?_;refine rC ?_;refine rQ iB ?_;refine nS ?_;refine wc_block ?_;refine sR ?_;iterate 2 refine rC ?_
    refine nS ?_;refine wF ?_;refine sR ?_;iterate 2 refine rC ?_
    refine nS ?_;refine wT ?_;refine qR ?_;iterate 3 refine rC ?_
    iterate 5 refine rT ?_
    refine rQ iU ?_;refine rC ?_;iterate 4 refine rT ?_
    refine rQ iU ?_;refine nS ?_;refine wV ?_;refine sR ?_;refine rC ?_;refine nS ?_;refine wc_ret ?_;refine seq_r ?_;refine blk_r ?_;refine seq_r ?_
    exact ⟨trivial, [], lf⟩
  | true =>
    obtain ⟨c2, h2⟩ : ∃ c, decide (x.client ≤ 7) = c := ⟨_, rfl⟩
    rw [h2]
    cases c2 with
    | false =>
      have n2 : (!decide (x.client ≤ 7)) = true := by rw [h2]; rfl
      refine fnIs_of tab_ok Tryz.func55 rfl rfl rfl ?_;refine sR ?_;refine rN ?_;refine rC ?_;refine nR ?_;refine rQ (build_array tab_ok rfl rfl rfl) ?_;refine rN ?_;refine rW ?_
      refine nR ?_;refine rC ?_;refine rQ iB ?_;iterate 2 refine rC ?_
      refine rO ?_;refine rC ?_;refine rO ?_;refine rQ iB ?_;refine rO ?_;refine rC ?_;refine rQ iT ?_;refine rC ?_;refine nQ ?_;refine sR ?_;refine rC ?_;refine rQ iB ?_
      refine nS ?_;refine wc_block ?_;refine sR ?_;iterate 2 refine rC ?_
      refine nS ?_;refine wF ?_;refine sR ?_;iterate 2 refine rC ?_
      refine nS ?_;refine wT ?_;refine qR ?_;iterate 3 refine rC ?_
      iterate 5 refine rS ?_
      refine rQ iT ?_;refine rC ?_;iterate 4 refine rT ?_
      refine rQ iU ?_;refine nS ?_;refine wV ?_;refine sR ?_;refine rC ?_;refine nS ?_;refine wc_ret ?_;refine seq_r ?_;refine blk_r ?_;refine seq_r ?_
      exact ⟨trivial, [], lf⟩
    | true =>
      have n2 : (!decide (x.client ≤ 7)) = false := by rw [h2]; rfl
      obtain ⟨c3, h3⟩ : ∃ c, decide (pend h x.client < 0) = c := ⟨_, rfl⟩
      rw [h3]
      cases c3 with
      | true =>
        refine fnIs_of tab_ok Tryz.func55 rfl rfl rfl ?_;refine sR ?_;refine rN ?_;refine rC ?_;refine nR ?_;refine rQ (build_array tab_ok rfl rfl rfl) ?_;refine rN ?_;refine rW ?_
        refine nR ?_;refine rC ?_;refine rQ iB ?_;iterate 2 refine rC ?_
        refine rO ?_;refine rC ?_;refine rO ?_;refine rQ iB ?_;refine rO ?_;refine rC ?_;refine rQ iT ?_;refine rC ?_;refine nQ ?_;refine sR ?_;refine rC ?_;refine rQ iB ?_
        refine nS ?_;refine wc_block ?_;refine sR ?_;iterate 2 refine rC ?_
        refine nS ?_;refine wF ?_;refine sR ?_;iterate 2 refine rC ?_
        refine nS ?_;refine wT ?_;refine qR ?_;iterate 3 refine rC ?_
        refine rO ?_;refine rC ?_;refine rO ?_;refine rC ?_;refine rO ?_;refine rQ iB ?_;refine rO ?_;refine rQ (call_r hpd rfl rfl (arg_e (arg_e arg_nil)) (.inl rfl) (fun _ => rfl)) ?_
        refine rO ?_;refine rC ?_;refine rQ iF ?_;refine rC ?_;iterate 4 refine rS ?_
        refine rQ iT ?_;refine nS ?_;refine wV ?_;refine sR ?_;refine rC ?_;refine nS ?_;refine wc_ret ?_;refine seq_r ?_;refine blk_r ?_;refine seq_r ?_
        exact ⟨trivial, [], lf⟩
      | false =>
        have hge : 0 ≤ pend h x.client := by have := of_decide_eq_false h3; omega
        obtain ⟨y, hy⟩ : ∃ y, h[(pend h x.client).toNat]? = some y := ⟨_, List.getElem?_eq_getElem (by omega)⟩
        rw [hy]
        by_cases h4 : x.op = zOp
        · rw [decide_eq_true h4]
          rw [if_pos h4] at hz
          obtain ⟨e0, q0⟩ : ∃ c, (!decide (x.err = 0)) = c := ⟨_, rfl⟩
          have q0' : decide (x.err = 0) = !e0 := by rw [← q0, Bool.not_not]
          obtain ⟨kd, qk⟩ : ∃ c, decide (y.op.kind = 1) = c := ⟨_, rfl⟩
          obtain ⟨vz, qv⟩ : ∃ c, decide (x.value = zBk) = c := ⟨_, rfl⟩
          simp only [kn4, q0', qk, qv]
          cases e0 with
          | false =>
            cases kd with
            | true =>
              refine fnIs_of tab_ok Tryz.func55 rfl rfl rfl ?_;refine sR ?_;refine rN ?_;refine rC ?_;refine nR ?_;refine rQ (build_array tab_ok rfl rfl rfl) ?_;refine rN ?_;refine rW ?_
              refine nR ?_;refine rC ?_;refine rQ iB ?_;iterate 2 refine rC ?_
              refine rO ?_;refine rC ?_;refine rO ?_;refine rQ iB ?_;refine rO ?_;refine rC ?_;refine rQ iT ?_;refine rC ?_;refine nQ ?_;refine sR ?_;refine rC ?_;refine rQ iB ?_
              refine nS ?_;refine wc_block ?_;refine sR ?_;iterate 2 refine rC ?_
              refine nS ?_;refine wF ?_;refine sR ?_;iterate 2 refine rC ?_
              refine nS ?_;refine wT ?_;refine qR ?_;iterate 3 refine rC ?_
              refine rO ?_;refine rC ?_;refine rO ?_;refine rC ?_;refine rO ?_;refine rQ iB ?_;refine rO ?_;refine rQ (call_r hpd rfl rfl (arg_e (arg_e arg_nil)) (.inl rfl) (fun _ => rfl)) ?_
              refine rO ?_;refine rC ?_;refine rQ iF ?_;refine rC ?_;refine rO ?_;refine rC ?_;refine rO ?_;refine rQ iB ?_;refine rO ?_;refine rQ (call_r hz rfl rfl (arg_e arg_nil) (.inl rfl) (fun _ => rfl)) ?_
              refine rO ?_;refine rC ?_;refine rQ iF ?_;refine nS ?_;refine wG ?_;refine kS ?_;refine qR ?_;refine rC ?_;refine rQ iB ?_;iterate 2 refine rC ?_
              iterate 3 refine rS ?_
              refine rQ iF ?_;refine rC ?_;iterate 3 refine rT ?_
              refine rQ iG ?_;refine rC ?_;iterate 3 refine rT ?_
              refine rQ iG ?_;refine nS ?_;refine wG ?_;refine kS ?_;refine sR ?_;iterate 3 refine rC ?_
              refine rQ iB ?_;refine rQ (call_r hpd rfl rfl (arg_e (arg_e arg_nil)) (.inl rfl) (fun _ => rfl)) ?_;refine rQ (index_arr tab_ok rfl rfl rfl rfl rfl (by omega) hy) ?_
              iterate 2 refine rC ?_
              refine rQ iL ?_;iterate 2 refine rC ?_
              refine rO ?_;refine rC ?_;refine rO ?_;refine rQ iB ?_;refine rO ?_;refine rC ?_;refine rQ iT ?_;refine rC ?_;refine nR ?_;iterate 2 refine rC ?_
              iterate 4 refine rS ?_
              refine rQ iT ?_;refine nS ?_;refine wV ?_;refine sR ?_;refine rC ?_;refine nS ?_;refine wc_ret ?_;refine blk_r ?_;refine seq_r ?_
              exact ⟨trivial, [], lf⟩
            | false =>
              cases vz with
              | true =>
                refine fnIs_of tab_ok Tryz.func55 rfl rfl rfl ?_;refine sR ?_;refine rN ?_;refine rC ?_;refine nR ?_;refine rQ (build_array tab_ok rfl rfl rfl) ?_;refine rN ?_;refine rW ?_
                refine nR ?_;refine rC ?_;refine rQ iB ?_;iterate 2 refine rC ?_
                refine rO ?_;refine rC ?_;refine rO ?_;refine rQ iB ?_;refine rO ?_;refine rC ?_;refine rQ iT ?_;refine rC ?_;refine nQ ?_;refine sR ?_;refine rC ?_;refine rQ iB ?_
                refine nS ?_;refine wc_block ?_;refine sR ?_;iterate 2 refine rC ?_
                refine nS ?_;refine wF ?_;refine sR ?_;iterate 2 refine rC ?_
                refine nS ?_;refine wT ?_;refine qR ?_;iterate 3 refine rC ?_
                refine rO ?_;refine rC ?_;refine rO ?_;refine rC ?_;refine rO ?_;refine rQ iB ?_;refine rO ?_;refine rQ (call_r hpd rfl rfl (arg_e (arg_e arg_nil)) (.inl rfl) (fun _ => rfl)) ?_
                refine rO ?_;refine rC ?_;refine rQ iF ?_;refine rC ?_;refine rO ?_;refine rC ?_;refine rO ?_;refine rQ iB ?_;refine rO ?_;refine rQ (call_r hz rfl rfl (arg_e arg_nil) (.inl rfl) (fun _ => rfl)) ?_
                refine rO ?_;refine rC ?_;refine rQ iF ?_;refine nS ?_;refine wG ?_;refine kS ?_;refine qR ?_;refine rC ?_;refine rQ iB ?_;iterate 2 refine rC ?_
                iterate 3 refine rS ?_
                refine rQ iF ?_;refine rC ?_;iterate 3 refine rT ?_
                refine rQ iG ?_;refine rC ?_;iterate 3 refine rT ?_
                refine rQ iG ?_;refine nS ?_;refine wG ?_;refine kS ?_;refine sR ?_;iterate 3 refine rC ?_
                refine rQ iB ?_;refine rQ (call_r hpd rfl rfl (arg_e (arg_e arg_nil)) (.inl rfl) (fun _ => rfl)) ?_;refine rQ (index_arr tab_ok rfl rfl rfl rfl rfl (by omega) hy) ?_
                iterate 2 refine rC ?_
                refine rQ iL ?_;iterate 2 refine rC ?_
                iterate 3 refine rS ?_
                refine rQ iF ?_;refine rC ?_;refine nR ?_;iterate 2 refine rC ?_
                refine rP ?_;refine rC ?_;refine rP ?_;refine rQ iB ?_;refine rP ?_;refine rQ iM ?_;refine rP ?_;refine rQ (eql_data rfl rfl rfl rfl (by kernel_rfl) (by decide) (block_eq x.value zBk)) ?_
                refine rQ iG ?_;refine nS ?_;refine wT ?_;refine sR ?_;refine rC ?_;refine nS ?_;refine wc_ret ?_;refine blk_r ?_;refine seq_r ?_
                exact ⟨trivial, [], lf⟩
              | false =>
                refine fnIs_of tab_ok Tryz.func55 rfl rfl rfl ?_;refine sR ?_;refine rN ?_;refine rC ?_;refine nR ?_;refine rQ (build_array tab_ok rfl rfl rfl) ?_;refine rN ?_;refine rW ?_
                refine nR ?_;refine rC ?_;refine rQ iB ?_;iterate 2 refine rC ?_
                refine rO ?_;refine rC ?_;refine rO ?_;refine rQ iB ?_;refine rO ?_;refine rC ?_;refine rQ iT ?_;refine rC ?_;refine nQ ?_;refine sR ?_;refine rC ?_;refine rQ iB ?_
                refine nS ?_;refine wc_block ?_;refine sR ?_;iterate 2 refine rC ?_
                refine nS ?_;refine wF ?_;refine sR ?_;iterate 2 refine rC ?_
                refine nS ?_;refine wT ?_;refine qR ?_;iterate 3 refine rC ?_
                refine rO ?_;refine rC ?_;refine rO ?_;refine rC ?_;refine rO ?_;refine rQ iB ?_;refine rO ?_;refine rQ (call_r hpd rfl rfl (arg_e (arg_e arg_nil)) (.inl rfl) (fun _ => rfl)) ?_
                refine rO ?_;refine rC ?_;refine rQ iF ?_;refine rC ?_;refine rO ?_;refine rC ?_;refine rO ?_;refine rQ iB ?_;refine rO ?_;refine rQ (call_r hz rfl rfl (arg_e arg_nil) (.inl rfl) (fun _ => rfl)) ?_
                refine rO ?_;refine rC ?_;refine rQ iF ?_;refine nS ?_;refine wG ?_;refine kS ?_;refine qR ?_;refine rC ?_;refine rQ iB ?_;iterate 2 refine rC ?_
                iterate 3 refine rS ?_
                refine rQ iF ?_;refine rC ?_;iterate 3 refine rT ?_
                refine rQ iG ?_;refine rC ?_;iterate 3 refine rT ?_
                refine rQ iG ?_;refine nS ?_;refine wG ?_;refine kS ?_;refine sR ?_;iterate 3 refine rC ?_
                refine rQ iB ?_;refine rQ (call_r hpd rfl rfl (arg_e (arg_e arg_nil)) (.inl rfl) (fun _ => rfl)) ?_;refine rQ (index_arr tab_ok rfl rfl rfl rfl rfl (by omega) hy) ?_
                iterate 2 refine rC ?_
                refine rQ iL ?_;iterate 2 refine rC ?_
                iterate 3 refine rS ?_
                refine rQ iF ?_;refine rC ?_;refine nR ?_;iterate 2 refine rC ?_
                refine rP ?_;refine rC ?_;refine rP ?_;refine rQ iB ?_;refine rP ?_;refine rQ iM ?_;refine rP ?_;refine rQ (eql_data rfl rfl rfl rfl (by kernel_rfl) (by decide) (block_eq x.value zBk)) ?_
                refine rQ iG ?_;refine nS ?_;refine wF ?_;refine wc_skip ?_;refine blk_n ?_;refine seq_n ?_;refine sR ?_;refine rC ?_;refine nS ?_;refine wc_ret ?_
                exact ⟨trivial, [], lf⟩
          | true =>
            obtain ⟨e1, q1⟩ : ∃ c, (!decide (x.err = 1)) = c := ⟨_, rfl⟩
            have q1' : decide (x.err = 1) = !e1 := by rw [← q1, Bool.not_not]
            obtain ⟨e8, q8⟩ : ∃ c, (!decide (x.err = 8)) = c := ⟨_, rfl⟩
            have q8' : decide (x.err = 8) = !e8 := by rw [← q8, Bool.not_not]
            obtain ⟨e9, q9⟩ : ∃ c, (!decide (x.err = 9)) = c := ⟨_, rfl⟩
            have q9' : decide (x.err = 9) = !e9 := by rw [← q9, Bool.not_not]
            simp only [q1', q8', q9']
            cases e1 with
            | false =>
              cases kd with
              | true =>
                cases vz with
                | true =>
                  refine fnIs_of tab_ok Tryz.func55 rfl rfl rfl ?_;refine sR ?_;refine rN ?_;refine rC ?_;refine nR ?_;refine rQ (build_array tab_ok rfl rfl rfl) ?_;refine rN ?_;refine rW ?_
                  refine nR ?_;refine rC ?_;refine rQ iB ?_;iterate 2 refine rC ?_
                  refine rO ?_;refine rC ?_;refine rO ?_;refine rQ iB ?_;refine rO ?_;refine rC ?_;refine rQ iT ?_;refine rC ?_;refine nQ ?_;refine sR ?_;refine rC ?_;refine rQ iB ?_
                  refine nS ?_;refine wc_block ?_;refine sR ?_;iterate 2 refine rC ?_
                  refine nS ?_;refine wF ?_;refine sR ?_;iterate 2 refine rC ?_
                  refine nS ?_;refine wT ?_;refine qR ?_;iterate 3 refine rC ?_
                  refine rO ?_;refine rC ?_;refine rO ?_;refine rC ?_;refine rO ?_;refine rQ iB ?_;refine rO ?_;refine rQ (call_r hpd rfl rfl (arg_e (arg_e arg_nil)) (.inl rfl) (fun _ => rfl)) ?_
                  refine rO ?_;refine rC ?_;refine rQ iF ?_;refine rC ?_;refine rO ?_;refine rC ?_;refine rO ?_;refine rQ iB ?_;refine rO ?_;refine rQ (call_r hz rfl rfl (arg_e arg_nil) (.inl rfl) (fun _ => rfl)) ?_
                  refine rO ?_;refine rC ?_;refine rQ iF ?_;refine nS ?_;refine wG ?_;refine kS ?_;refine qR ?_;refine rC ?_;refine rQ iB ?_;iterate 2 refine rC ?_
                  refine rO ?_;refine rC ?_;refine rO ?_;refine rQ iB ?_;refine rO ?_;refine rC ?_;refine rQ iT ?_;refine rC ?_;iterate 3 refine rS ?_
                  refine rQ iF ?_;refine rC ?_;iterate 3 refine rT ?_
                  refine rQ iG ?_;refine nS ?_;refine wG ?_;refine kS ?_;refine sR ?_;iterate 3 refine rC ?_
                  refine rQ iB ?_;refine rQ (call_r hpd rfl rfl (arg_e (arg_e arg_nil)) (.inl rfl) (fun _ => rfl)) ?_;refine rQ (index_arr tab_ok rfl rfl rfl rfl rfl (by omega) hy) ?_
                  iterate 2 refine rC ?_
                  refine rQ iL ?_;iterate 2 refine rC ?_
                  refine rO ?_;refine rC ?_;refine rO ?_;refine rQ iB ?_;refine rO ?_;refine rC ?_;refine rQ iT ?_;refine rC ?_;refine nR ?_;iterate 2 refine rC ?_
                  refine rO ?_;refine rC ?_;refine rO ?_;refine rQ iB ?_;refine rO ?_;refine rQ iM ?_;refine rO ?_;refine rQ (eql_data rfl rfl rfl rfl (by kernel_rfl) (by decide) (block_eq x.value zBk)) ?_
                  refine rQ iF ?_;refine nS ?_;refine wT ?_;refine sR ?_;refine rC ?_;refine nS ?_;refine wc_ret ?_;refine blk_r ?_;refine seq_r ?_
                  exact ⟨trivial, [], lf⟩
                | false =>
                  refine fnIs_of tab_ok Tryz.func55 rfl rfl rfl ?_;refine sR ?_;refine rN ?_;refine rC ?_;refine nR ?_;refine rQ (build_array tab_ok rfl rfl rfl) ?_;refine rN ?_;refine rW ?_
                  refine nR ?_;refine rC ?_;refine rQ iB ?_;iterate 2 refine rC ?_
                  refine rO ?_;refine rC ?_;refine rO ?_;refine rQ iB ?_;refine rO ?_;refine rC ?_;refine rQ iT ?_;refine rC ?_;refine nQ ?_;refine sR ?_;refine rC ?_;refine rQ iB ?_
                  refine nS ?_;refine wc_block ?_;refine sR ?_;iterate 2 refine rC ?_
                  refine nS ?_;refine wF ?_;refine sR ?_;iterate 2 refine rC ?_
                  refine nS ?_;refine wT ?_;refine qR ?_;iterate 3 refine rC ?_
                  refine rO ?_;refine rC ?_;refine rO ?_;refine rC ?_;refine rO ?_;refine rQ iB ?_;refine rO ?_;refine rQ (call_r hpd rfl rfl (arg_e (arg_e arg_nil)) (.inl rfl) (fun _ => rfl)) ?_
                  refine rO ?_;refine rC ?_;refine rQ iF ?_;refine rC ?_;refine rO ?_;refine rC ?_;refine rO ?_;refine rQ iB ?_;refine rO ?_;refine rQ (call_r hz rfl rfl (arg_e arg_nil) (.inl rfl) (fun _ => rfl)) ?_
                  refine rO ?_;refine rC ?_;refine rQ iF ?_;refine nS ?_;refine wG ?_;refine kS ?_;refine qR ?_;refine rC ?_;refine rQ iB ?_;iterate 2 refine rC ?_
                  refine rO ?_;refine rC ?_;refine rO ?_;refine rQ iB ?_;refine rO ?_;refine rC ?_;refine rQ iT ?_;refine rC ?_;iterate 3 refine rS ?_
                  refine rQ iF ?_;refine rC ?_;iterate 3 refine rT ?_
                  refine rQ iG ?_;refine nS ?_;refine wG ?_;refine kS ?_;refine sR ?_;iterate 3 refine rC ?_
                  refine rQ iB ?_;refine rQ (call_r hpd rfl rfl (arg_e (arg_e arg_nil)) (.inl rfl) (fun _ => rfl)) ?_;refine rQ (index_arr tab_ok rfl rfl rfl rfl rfl (by omega) hy) ?_
                  iterate 2 refine rC ?_
                  refine rQ iL ?_;iterate 2 refine rC ?_
                  refine rO ?_;refine rC ?_;refine rO ?_;refine rQ iB ?_;refine rO ?_;refine rC ?_;refine rQ iT ?_;refine rC ?_;refine nR ?_;iterate 2 refine rC ?_
                  refine rO ?_;refine rC ?_;refine rO ?_;refine rQ iB ?_;refine rO ?_;refine rQ iM ?_;refine rO ?_;refine rQ (eql_data rfl rfl rfl rfl (by kernel_rfl) (by decide) (block_eq x.value zBk)) ?_
                  refine rQ iF ?_;refine nS ?_;refine wF ?_;refine wc_skip ?_;refine blk_n ?_;refine seq_n ?_;refine sR ?_;refine rC ?_;refine nS ?_;refine wc_ret ?_
                  exact ⟨trivial, [], lf⟩
              | false =>
                cases vz with
                | true =>
                  refine fnIs_of tab_ok Tryz.func55 rfl rfl rfl ?_;refine sR ?_;refine rN ?_;refine rC ?_;refine nR ?_;refine rQ (build_array tab_ok rfl rfl rfl) ?_;refine rN ?_;refine rW ?_
                  refine nR ?_;refine rC ?_;refine rQ iB ?_;iterate 2 refine rC ?_
                  refine rO ?_;refine rC ?_;refine rO ?_;refine rQ iB ?_;refine rO ?_;refine rC ?_;refine rQ iT ?_;refine rC ?_;refine nQ ?_;refine sR ?_;refine rC ?_;refine rQ iB ?_
                  refine nS ?_;refine wc_block ?_;refine sR ?_;iterate 2 refine rC ?_
                  refine nS ?_;refine wF ?_;refine sR ?_;iterate 2 refine rC ?_
                  refine nS ?_;refine wT ?_;refine qR ?_;iterate 3 refine rC ?_
                  refine rO ?_;refine rC ?_;refine rO ?_;refine rC ?_;refine rO ?_;refine rQ iB ?_;refine rO ?_;refine rQ (call_r hpd rfl rfl (arg_e (arg_e arg_nil)) (.inl rfl) (fun _ => rfl)) ?_
                  refine rO ?_;refine rC ?_;refine rQ iF ?_;refine rC ?_;refine rO ?_;refine rC ?_;refine rO ?_;refine rQ iB ?_;refine rO ?_;refine rQ (call_r hz rfl rfl (arg_e arg_nil) (.inl rfl) (fun _ => rfl)) ?_
                  refine rO ?_;refine rC ?_;refine rQ iF ?_;refine nS ?_;refine wG ?_;refine kS ?_;refine qR ?_;refine rC ?_;refine rQ iB ?_;iterate 2 refine rC ?_
                  refine rO ?_;refine rC ?_;refine rO ?_;refine rQ iB ?_;refine rO ?_;refine rC ?_;refine rQ iT ?_;refine rC ?_;iterate 3 refine rS ?_
                  refine rQ iF ?_;refine rC ?_;iterate 3 refine rT ?_
                  refine rQ iG ?_;refine nS ?_;refine wG ?_;refine kS ?_;refine sR ?_;iterate 3 refine rC ?_
                  refine rQ iB ?_;refine rQ (call_r hpd rfl rfl (arg_e (arg_e arg_nil)) (.inl rfl) (fun _ => rfl)) ?_;refine rQ (index_arr tab_ok rfl rfl rfl rfl rfl (by omega) hy) ?_
                  iterate 2 refine rC ?_
                  refine rQ iL ?_;iterate 2 refine rC ?_
                  iterate 3 refine rS ?_
                  refine rQ iF ?_;refine rC ?_;refine nR ?_;iterate 2 refine rC ?_
                  refine rP ?_;refine rC ?_;refine rP ?_;refine rQ iB ?_;refine rP ?_;refine rQ iM ?_;refine rP ?_;refine rQ (eql_data rfl rfl rfl rfl (by kernel_rfl) (by decide) (block_eq x.value zBk)) ?_
                  refine rQ iG ?_;refine nS ?_;refine wT ?_;refine sR ?_;refine rC ?_;refine nS ?_;refine wc_ret ?_;refine blk_r ?_;refine seq_r ?_
                  exact ⟨trivial, [], lf⟩
                | false =>
                  refine fnIs_of tab_ok Tryz.func55 rfl rfl rfl ?_;refine sR ?_;refine rN ?_;refine rC ?_;refine nR ?_;refine rQ (build_array tab_ok rfl rfl rfl) ?_;refine rN ?_;refine rW ?_
                  refine nR ?_;refine rC ?_;refine rQ iB ?_;iterate 2 refine rC ?_
                  refine rO ?_;refine rC ?_;refine rO ?_;refine rQ iB ?_;refine rO ?_;refine rC ?_;refine rQ iT ?_;refine rC ?_;refine nQ ?_;refine sR ?_;refine rC ?_;refine rQ iB ?_
                  refine nS ?_;refine wc_block ?_;refine sR ?_;iterate 2 refine rC ?_
                  refine nS ?_;refine wF ?_;refine sR ?_;iterate 2 refine rC ?_
                  refine nS ?_;refine wT ?_;refine qR ?_;iterate 3 refine rC ?_
                  refine rO ?_;refine rC ?_;refine rO ?_;refine rC ?_;refine rO ?_;refine rQ iB ?_;refine rO ?_;refine rQ (call_r hpd rfl rfl (arg_e (arg_e arg_nil)) (.inl rfl) (fun _ => rfl)) ?_
                  refine rO ?_;refine rC ?_;refine rQ iF ?_;refine rC ?_;refine rO ?_;refine rC ?_;refine rO ?_;refine rQ iB ?_;refine rO ?_;refine rQ (call_r hz rfl rfl (arg_e arg_nil) (.inl rfl) (fun _ => rfl)) ?_
                  refine rO ?_;refine rC ?_;refine rQ iF ?_;refine nS ?_;refine wG ?_;refine kS ?_;refine qR ?_;refine rC ?_;refine rQ iB ?_;iterate 2 refine rC ?_
                  refine rO ?_;refine rC ?_;refine rO ?_;refine rQ iB ?_;refine rO ?_;refine rC ?_;refine rQ iT ?_;refine rC ?_;iterate 3 refine rS ?_
                  refine rQ iF ?_;refine rC ?_;iterate 3 refine rT ?_
                  refine rQ iG ?_;refine nS ?_;refine wG ?_;refine kS ?_;refine sR ?_;iterate 3 refine rC ?_
                  refine rQ iB ?_;refine rQ (call_r hpd rfl rfl (arg_e (arg_e arg_nil)) (.inl rfl) (fun _ => rfl)) ?_;refine rQ (index_arr tab_ok rfl rfl rfl rfl rfl (by omega) hy) ?_
                  iterate 2 refine rC ?_
                  refine rQ iL ?_;iterate 2 refine rC ?_
                  iterate 3 refine rS ?_
                  refine rQ iF ?_;refine rC ?_;refine nR ?_;iterate 2 refine rC ?_
                  refine rP ?_;refine rC ?_;refine rP ?_;refine rQ iB ?_;refine rP ?_;refine rQ iM ?_;refine rP ?_;refine rQ (eql_data rfl rfl rfl rfl (by kernel_rfl) (by decide) (block_eq x.value zBk)) ?_
                  refine rQ iG ?_;refine nS ?_;refine wF ?_;refine wc_skip ?_;refine blk_n ?_;refine seq_n ?_;refine sR ?_;refine rC ?_;refine nS ?_;refine wc_ret ?_
                  exact ⟨trivial, [], lf⟩
            | true =>
              cases e8 with
              | false =>
                cases kd with
                | true =>
                  cases vz with
                  | true =>
                    refine fnIs_of tab_ok Tryz.func55 rfl rfl rfl ?_;refine sR ?_;refine rN ?_;refine rC ?_;refine nR ?_;refine rQ (build_array tab_ok rfl rfl rfl) ?_;refine rN ?_;refine rW ?_
                    refine nR ?_;refine rC ?_;refine rQ iB ?_;iterate 2 refine rC ?_
                    refine rO ?_;refine rC ?_;refine rO ?_;refine rQ iB ?_;refine rO ?_;refine rC ?_;refine rQ iT ?_;refine rC ?_;refine nQ ?_;refine sR ?_;refine rC ?_;refine rQ iB ?_
                    refine nS ?_;refine wc_block ?_;refine sR ?_;iterate 2 refine rC ?_
                    refine nS ?_;refine wF ?_;refine sR ?_;iterate 2 refine rC ?_
                    refine nS ?_;refine wT ?_;refine qR ?_;iterate 3 refine rC ?_
                    refine rO ?_;refine rC ?_;refine rO ?_;refine rC ?_;refine rO ?_;refine rQ iB ?_;refine rO ?_;refine rQ (call_r hpd rfl rfl (arg_e (arg_e arg_nil)) (.inl rfl) (fun _ => rfl)) ?_
                    refine rO ?_;refine rC ?_;refine rQ iF ?_;refine rC ?_;refine rO ?_;refine rC ?_;refine rO ?_;refine rQ iB ?_;refine rO ?_;refine rQ (call_r hz rfl rfl (arg_e arg_nil) (.inl rfl) (fun _ => rfl)) ?_
                    refine rO ?_;refine rC ?_;refine rQ iF ?_;refine nS ?_;refine wG ?_;refine kS ?_;refine qR ?_;refine rC ?_;refine rQ iB ?_;iterate 2 refine rC ?_
                    refine rO ?_;refine rC ?_;refine rO ?_;refine rQ iB ?_;refine rO ?_;refine rC ?_;refine rQ iT ?_;refine rC ?_;refine rO ?_;refine rC ?_;refine rO ?_;refine rQ iB ?_
                    refine rO ?_;refine rC ?_;refine rQ iT ?_;refine rC ?_;iterate 3 refine rS ?_
                    refine rQ iF ?_;refine nS ?_;refine wG ?_;refine kS ?_;refine sR ?_;iterate 3 refine rC ?_
                    refine rQ iB ?_;refine rQ (call_r hpd rfl rfl (arg_e (arg_e arg_nil)) (.inl rfl) (fun _ => rfl)) ?_;refine rQ (index_arr tab_ok rfl rfl rfl rfl rfl (by omega) hy) ?_
                    iterate 2 refine rC ?_
                    refine rQ iL ?_;iterate 2 refine rC ?_
                    refine rO ?_;refine rC ?_;refine rO ?_;refine rQ iB ?_;refine rO ?_;refine rC ?_;refine rQ iT ?_;refine rC ?_;refine nR ?_;iterate 2 refine rC ?_
                    refine rO ?_;refine rC ?_;refine rO ?_;refine rQ iB ?_;refine rO ?_;refine rQ iM ?_;refine rO ?_;refine rQ (eql_data rfl rfl rfl rfl (by kernel_rfl) (by decide) (block_eq x.value zBk)) ?_
                    refine rQ iF ?_;refine nS ?_;refine wT ?_;refine sR ?_;refine rC ?_;refine nS ?_;refine wc_ret ?_;refine blk_r ?_;refine seq_r ?_
                    exact ⟨trivial, [], lf⟩
                  | false =>
                    refine fnIs_of tab_ok Tryz.func55 rfl rfl rfl ?_;refine sR ?_;refine rN ?_;refine rC ?_;refine nR ?_;refine rQ (build_array tab_ok rfl rfl rfl) ?_;refine rN ?_;refine rW ?_
                    refine nR ?_;refine rC ?_;refine rQ iB ?_;iterate 2 refine rC ?_
                    refine rO ?_;refine rC ?_;refine rO ?_;refine rQ iB ?_;refine rO ?_;refine rC ?_;refine rQ iT ?_;refine rC ?_;refine nQ ?_;refine sR ?_;refine rC ?_;refine rQ iB ?_
                    refine nS ?_;refine wc_block ?_;refine sR ?_;iterate 2 refine rC ?_
                    refine nS ?_;refine wF ?_;refine sR ?_;iterate 2 refine rC ?_
                    refine nS ?_;refine wT ?_;refine qR ?_;iterate 3 refine rC ?_
                    refine rO ?_;refine rC ?_;refine rO ?_;refine rC ?_;refine rO ?_;refine rQ iB ?_;refine rO ?_;refine rQ (call_r hpd rfl rfl (arg_e (arg_e arg_nil)) (.inl rfl) (fun _ => rfl)) ?_
                    refine rO ?_;refine rC ?_;refine rQ iF ?_;refine rC ?_;refine rO ?_;refine rC ?_;refine rO ?_;refine rQ iB ?_;refine rO ?_;refine rQ (call_r hz rfl rfl (arg_e arg_nil) (.inl rfl) (fun _ => rfl)) ?_
                    refine rO ?_;refine rC ?_;refine rQ iF ?_;refine nS ?_;refine wG ?_;refine kS ?_;refine qR ?_;refine rC ?_;refine rQ iB ?_;iterate 2 refine rC ?_
                    refine rO ?_;refine rC ?_;refine rO ?_;refine rQ iB ?_;refine rO ?_;refine rC ?_;refine rQ iT ?_;refine rC ?_;refine rO ?_;refine rC ?_;refine rO ?_;refine rQ iB ?_
                    refine rO ?_;refine rC ?_;refine rQ iT ?_;refine rC ?_;iterate 3 refine rS ?_
                    refine rQ iF ?_;refine nS ?_;refine wG ?_;refine kS ?_;refine sR ?_;iterate 3 refine rC ?_
                    refine rQ iB ?_;refine rQ (call_r hpd rfl rfl (arg_e (arg_e arg_nil)) (.inl rfl) (fun _ => rfl)) ?_;refine rQ (index_arr tab_ok rfl rfl rfl rfl rfl (by omega) hy) ?_
                    iterate 2 refine rC ?_
                    refine rQ iL ?_;iterate 2 refine rC ?_
                    refine rO ?_;refine rC ?_;refine rO ?_;refine rQ iB ?_;refine rO ?_;refine rC ?_;refine rQ iT ?_;refine rC ?_;refine nR ?_;iterate 2 refine rC ?_
                    refine rO ?_;refine rC ?_;refine rO ?_;refine rQ iB ?_;refine rO ?_;refine rQ iM ?_;refine rO ?_;refine rQ (eql_data rfl rfl rfl rfl (by kernel_rfl) (by decide) (block_eq x.value zBk)) ?_
                    refine rQ iF ?_;refine nS ?_;refine wF ?_;refine wc_skip ?_;refine blk_n ?_;refine seq_n ?_;refine sR ?_;refine rC ?_;refine nS ?_;refine wc_ret ?_
                    exact ⟨trivial, [], lf⟩
                | false =>
                  cases vz with
                  | true =>
                    refine fnIs_of tab_ok Tryz.func55 rfl rfl rfl ?_;refine sR ?_;refine rN ?_;refine rC ?_;refine nR ?_;refine rQ (build_array tab_ok rfl rfl rfl) ?_;refine rN ?_;refine rW ?_
                    refine nR ?_;refine rC ?_;refine rQ iB ?_;iterate 2 refine rC ?_
                    refine rO ?_;refine rC ?_;refine rO ?_;refine rQ iB ?_;refine rO ?_;refine rC ?_;refine rQ iT ?_;refine rC ?_;refine nQ ?_;refine sR ?_;refine rC ?_;refine rQ iB ?_
                    refine nS ?_;refine wc_block ?_;refine sR ?_;iterate 2 refine rC ?_
                    refine nS ?_;refine wF ?_;refine sR ?_;iterate 2 refine rC ?_
                    refine nS ?_;refine wT ?_;refine qR ?_;iterate 3 refine rC ?_
                    refine rO ?_;refine rC ?_;refine rO ?_;refine rC ?_;refine rO ?_;refine rQ iB ?_;refine rO ?_;refine rQ (call_r hpd rfl rfl (arg_e (arg_e arg_nil)) (.inl rfl) (fun _ => rfl)) ?_
                    refine rO ?_;refine rC ?_;refine rQ iF ?_;refine rC ?_;refine rO ?_;refine rC ?_;refine rO ?_;refine rQ iB ?_;refine rO ?_;refine rQ (call_r hz rfl rfl (arg_e arg_nil) (.inl rfl) (fun _ => rfl)) ?_
                    refine rO ?_;refine rC ?_;refine rQ iF ?_;refine nS ?_;refine wG ?_;refine kS ?_;refine qR ?_;refine rC ?_;refine rQ iB ?_;iterate 2 refine rC ?_
                    refine rO ?_;refine rC ?_;refine rO ?_;refine rQ iB ?_;refine rO ?_;refine rC ?_;refine rQ iT ?_;refine rC ?_;refine rO ?_;refine rC ?_;refine rO ?_;refine rQ iB ?_
                    refine rO ?_;refine rC ?_;refine rQ iT ?_;refine rC ?_;iterate 3 refine rS ?_
                    refine rQ iF ?_;refine nS ?_;refine wG ?_;refine kS ?_;refine sR ?_;iterate 3 refine rC ?_
                    refine rQ iB ?_;refine rQ (call_r hpd rfl rfl (arg_e (arg_e arg_nil)) (.inl rfl) (fun _ => rfl)) ?_;refine rQ (index_arr tab_ok rfl rfl rfl rfl rfl (by omega) hy) ?_
                    iterate 2 refine rC ?_
                    refine rQ iL ?_;iterate 2 refine rC ?_
                    iterate 3 refine rS ?_
                    refine rQ iF ?_;refine rC ?_;refine nR ?_;iterate 2 refine rC ?_
                    refine rP ?_;refine rC ?_;refine rP ?_;refine rQ iB ?_;refine rP ?_;refine rQ iM ?_;refine rP ?_;refine rQ (eql_data rfl rfl rfl rfl (by kernel_rfl) (by decide) (block_eq x.value zBk)) ?_
                    refine rQ iG ?_;refine nS ?_;refine wT ?_;refine sR ?_;refine rC ?_;refine nS ?_;refine wc_ret ?_;refine blk_r ?_;refine seq_r ?_
                    exact ⟨trivial, [], lf⟩
                  | false =>
                    refine fnIs_of tab_ok Tryz.func55 rfl rfl rfl ?_;refine sR ?_;refine rN ?_;refine rC ?_;refine nR ?_;refine rQ (build_array tab_ok rfl rfl rfl) ?_;refine rN ?_;refine rW ?_
                    refine nR ?_;refine rC ?_;refine rQ iB ?_;iterate 2 refine rC ?_
                    refine rO ?_;refine rC ?_;refine rO ?_;refine rQ iB ?_;refine rO ?_;refine rC ?_;refine rQ iT ?_;refine rC ?_;refine nQ ?_;refine sR ?_;refine rC ?_;refine rQ iB ?_
                    refine nS ?_;refine wc_block ?_;refine sR ?_;iterate 2 refine rC ?_
                    refine nS ?_;refine wF ?_;refine sR ?_;iterate 2 refine rC ?_
                    refine nS ?_;refine wT ?_;refine qR ?_;iterate 3 refine rC ?_
                    refine rO ?_;refine rC ?_;refine rO ?_;refine rC ?_;refine rO ?_;refine rQ iB ?_;refine rO ?_;refine rQ (call_r hpd rfl rfl (arg_e (arg_e arg_nil)) (.inl rfl) (fun _ => rfl)) ?_
                    refine rO ?_;refine rC ?_;refine rQ iF ?_;refine rC ?_;refine rO ?_;refine rC ?_;refine rO ?_;refine rQ iB ?_;refine rO ?_;refine rQ (call_r hz rfl rfl (arg_e arg_nil) (.inl rfl) (fun _ => rfl)) ?_
                    refine rO ?_;refine rC ?_;refine rQ iF ?_;refine nS ?_;refine wG ?_;refine kS ?_;refine qR ?_;refine rC ?_;refine rQ iB ?_;iterate 2 refine rC ?_
                    refine rO ?_;refine rC ?_;refine rO ?_;refine rQ iB ?_;refine rO ?_;refine rC ?_;refine rQ iT ?_;refine rC ?_;refine rO ?_;refine rC ?_;refine rO ?_;refine rQ iB ?_
                    refine rO ?_;refine rC ?_;refine rQ iT ?_;refine rC ?_;iterate 3 refine rS ?_
                    refine rQ iF ?_;refine nS ?_;refine wG ?_;refine kS ?_;refine sR ?_;iterate 3 refine rC ?_
                    refine rQ iB ?_;refine rQ (call_r hpd rfl rfl (arg_e (arg_e arg_nil)) (.inl rfl) (fun _ => rfl)) ?_;refine rQ (index_arr tab_ok rfl rfl rfl rfl rfl (by omega) hy) ?_
                    iterate 2 refine rC ?_
                    refine rQ iL ?_;iterate 2 refine rC ?_
                    iterate 3 refine rS ?_
                    refine rQ iF ?_;refine rC ?_;refine nR ?_;iterate 2 refine rC ?_
                    refine rP ?_;refine rC ?_;refine rP ?_;refine rQ iB ?_;refine rP ?_;refine rQ iM ?_;refine rP ?_;refine rQ (eql_data rfl rfl rfl rfl (by kernel_rfl) (by decide) (block_eq x.value zBk)) ?_
                    refine rQ iG ?_;refine nS ?_;refine wF ?_;refine wc_skip ?_;refine blk_n ?_;refine seq_n ?_;refine sR ?_;refine rC ?_;refine nS ?_;refine wc_ret ?_
                    exact ⟨trivial, [], lf⟩
              | true =>
                cases e9 with
                | false =>
                  cases kd with
                  | true =>
                    cases vz with
                    | true =>
                      refine fnIs_of tab_ok Tryz.func55 rfl rfl rfl ?_;refine sR ?_;refine rN ?_;refine rC ?_;refine nR ?_;refine rQ (build_array tab_ok rfl rfl rfl) ?_;refine rN ?_;refine rW ?_
                      refine nR ?_;refine rC ?_;refine rQ iB ?_;iterate 2 refine rC ?_
                      refine rO ?_;refine rC ?_;refine rO ?_;refine rQ iB ?_;refine rO ?_;refine rC ?_;refine rQ iT ?_;refine rC ?_;refine nQ ?_;refine sR ?_;refine rC ?_;refine rQ iB ?_
                      refine nS ?_;refine wc_block ?_;refine sR ?_;iterate 2 refine rC ?_
                      refine nS ?_;refine wF ?_;refine sR ?_;iterate 2 refine rC ?_
                      refine nS ?_;refine wT ?_;refine qR ?_;iterate 3 refine rC ?_
                      refine rO ?_;refine rC ?_;refine rO ?_;refine rC ?_;refine rO ?_;refine rQ iB ?_;refine rO ?_;refine rQ (call_r hpd rfl rfl (arg_e (arg_e arg_nil)) (.inl rfl) (fun _ => rfl)) ?_
                      refine rO ?_;refine rC ?_;refine rQ iF ?_;refine rC ?_;refine rO ?_;refine rC ?_;refine rO ?_;refine rQ iB ?_;refine rO ?_;refine rQ (call_r hz rfl rfl (arg_e arg_nil) (.inl rfl) (fun _ => rfl)) ?_
                      refine rO ?_;refine rC ?_;refine rQ iF ?_;refine nS ?_;refine wG ?_;refine kS ?_;refine qR ?_;refine rC ?_;refine rQ iB ?_;iterate 2 refine rC ?_
                      refine rO ?_;refine rC ?_;refine rO ?_;refine rQ iB ?_;refine rO ?_;refine rC ?_;refine rQ iT ?_;refine rC ?_;refine rO ?_;refine rC ?_;refine rO ?_;refine rQ iB ?_
                      refine rO ?_;refine rC ?_;refine rQ iT ?_;refine rC ?_;refine rO ?_;refine rC ?_;refine rO ?_;refine rQ iB ?_;refine rO ?_;refine rC ?_;refine rQ iT ?_;refine nS ?_
                      refine wF ?_;refine kS ?_;refine sR ?_;iterate 3 refine rC ?_
                      refine rQ iB ?_;refine rQ (call_r hpd rfl rfl (arg_e (arg_e arg_nil)) (.inl rfl) (fun _ => rfl)) ?_;refine rQ (index_arr tab_ok rfl rfl rfl rfl rfl (by omega) hy) ?_
                      iterate 2 refine rC ?_
                      refine rQ iL ?_;iterate 2 refine rC ?_
                      refine rO ?_;refine rC ?_;refine rO ?_;refine rQ iB ?_;refine rO ?_;refine rC ?_;refine rQ iT ?_;refine rC ?_;refine nR ?_;iterate 2 refine rC ?_
                      refine rO ?_;refine rC ?_;refine rO ?_;refine rQ iB ?_;refine rO ?_;refine rQ iM ?_;refine rO ?_;refine rQ (eql_data rfl rfl rfl rfl (by kernel_rfl) (by decide) (block_eq x.value zBk)) ?_
                      refine rQ iF ?_;refine nS ?_;refine wT ?_;refine sR ?_;refine rC ?_;refine nS ?_;refine wc_ret ?_;refine blk_r ?_;refine seq_r ?_
                      exact ⟨trivial, [], lf⟩
                    | false =>
                      refine fnIs_of tab_ok Tryz.func55 rfl rfl rfl ?_;refine sR ?_;refine rN ?_;refine rC ?_;refine nR ?_;refine rQ (build_array tab_ok rfl rfl rfl) ?_;refine rN ?_;refine rW ?_
                      refine nR ?_;refine rC ?_;refine rQ iB ?_;iterate 2 refine rC ?_
                      refine rO ?_;refine rC ?_;refine rO ?_;refine rQ iB ?_;refine rO ?_;refine rC ?_;refine rQ iT ?_;refine rC ?_;refine nQ ?_;refine sR ?_;refine rC ?_;refine rQ iB ?_
                      refine nS ?_;refine wc_block ?_;refine sR ?_;iterate 2 refine rC ?_
                      refine nS ?_;refine wF ?_;refine sR ?_;iterate 2 refine rC ?_
                      refine nS ?_;refine wT ?_;refine qR ?_;iterate 3 refine rC ?_
                      refine rO ?_;refine rC ?_;refine rO ?_;refine rC ?_;refine rO ?_;refine rQ iB ?_;refine rO ?_;refine rQ (call_r hpd rfl rfl (arg_e (arg_e arg_nil)) (.inl rfl) (fun _ => rfl)) ?_
                      refine rO ?_;refine rC ?_;refine rQ iF ?_;refine rC ?_;refine rO ?_;refine rC ?_;refine rO ?_;refine rQ iB ?_;refine rO ?_;refine rQ (call_r hz rfl rfl (arg_e arg_nil) (.inl rfl) (fun _ => rfl)) ?_
                      refine rO ?_;refine rC ?_;refine rQ iF ?_;refine nS ?_;refine wG ?_;refine kS ?_;refine qR ?_;refine rC ?_;refine rQ iB ?_;iterate 2 refine rC ?_
                      refine rO ?_;refine rC ?_;refine rO ?_;refine rQ iB ?_;refine rO ?_;refine rC ?_;refine rQ iT ?_;refine rC ?_;refine rO ?_;refine rC ?_;refine rO ?_;refine rQ iB ?_
                      refine rO ?_;refine rC ?_;refine rQ iT ?_;refine rC ?_;refine rO ?_;refine rC ?_;refine rO ?_;refine rQ iB ?_;refine rO ?_;refine rC ?_;refine rQ iT ?_;refine nS ?_
                      refine wF ?_;refine kS ?_;refine sR ?_;iterate 3 refine rC ?_
                      refine rQ iB ?_;refine rQ (call_r hpd rfl rfl (arg_e (arg_e arg_nil)) (.inl rfl) (fun _ => rfl)) ?_;refine rQ (index_arr tab_ok rfl rfl rfl rfl rfl (by omega) hy) ?_
                      iterate 2 refine rC ?_
                      refine rQ iL ?_;iterate 2 refine rC ?_
                      refine rO ?_;refine rC ?_;refine rO ?_;refine rQ iB ?_;refine rO ?_;refine rC ?_;refine rQ iT ?_;refine rC ?_;refine nR ?_;iterate 2 refine rC ?_
                      refine rO ?_;refine rC ?_;refine rO ?_;refine rQ iB ?_;refine rO ?_;refine rQ iM ?_;refine rO ?_;refine rQ (eql_data rfl rfl rfl rfl (by kernel_rfl) (by decide) (block_eq x.value zBk)) ?_
                      refine rQ iF ?_;refine nS ?_;refine wF ?_;refine wc_skip ?_;refine blk_n ?_;refine seq_n ?_;refine sR ?_;refine rC ?_;refine nS ?_;refine wc_ret ?_
                      exact ⟨trivial, [], lf⟩
                  | false =>
                    cases vz with
                    | true =>
                      refine fnIs_of tab_ok Tryz.func55 rfl rfl rfl ?_;refine sR ?_;refine rN ?_;refine rC ?_;refine nR ?_;refine rQ (build_array tab_ok rfl rfl rfl) ?_;refine rN ?_;refine rW ?_
                      refine nR ?_;refine rC ?_;refine rQ iB ?_;iterate 2 refine rC ?_
                      refine rO ?_;refine rC ?_;refine rO ?_;refine rQ iB ?_;refine rO ?_;refine rC ?_;refine rQ iT ?_;refine rC ?_;refine nQ ?_;refine sR ?_;refine rC ?_;refine rQ iB ?_
                      refine nS ?_;refine wc_block ?_;refine sR ?_;iterate 2 refine rC ?_
                      refine nS ?_;refine wF ?_;refine sR ?_;iterate 2 refine rC ?_
                      refine nS ?_;refine wT ?_;refine qR ?_;iterate 3 refine rC ?_
                      refine rO ?_;refine rC ?_;refine rO ?_;refine rC ?_;refine rO ?_;refine rQ iB ?_;refine rO ?_;refine rQ (call_r hpd rfl rfl (arg_e (arg_e arg_nil)) (.inl rfl) (fun _ => rfl)) ?_
                      refine rO ?_;refine rC ?_;refine rQ iF ?_;refine rC ?_;refine rO ?_;refine rC ?_;refine rO ?_;refine rQ iB ?_;refine rO ?_;refine rQ (call_r hz rfl rfl (arg_e arg_nil) (.inl rfl) (fun _ => rfl)) ?_
                      refine rO ?_;refine rC ?_;refine rQ iF ?_;refine nS ?_;refine wG ?_;refine kS ?_;refine qR ?_;refine rC ?_;refine rQ iB ?_;iterate 2 refine rC ?_
                      refine rO ?_;refine rC ?_;refine rO ?_;refine rQ iB ?_;refine rO ?_;refine rC ?_;refine rQ iT ?_;refine rC ?_;refine rO ?_;refine rC ?_;refine rO ?_;refine rQ iB ?_
                      refine rO ?_;refine rC ?_;refine rQ iT ?_;refine rC ?_;refine rO ?_;refine rC ?_;refine rO ?_;refine rQ iB ?_;refine rO ?_;refine rC ?_;refine rQ iT ?_;refine nS ?_
                      refine wF ?_;refine kS ?_;refine sR ?_;iterate 3 refine rC ?_
                      refine rQ iB ?_;refine rQ (call_r hpd rfl rfl (arg_e (arg_e arg_nil)) (.inl rfl) (fun _ => rfl)) ?_;refine rQ (index_arr tab_ok rfl rfl rfl rfl rfl (by omega) hy) ?_
                      iterate 2 refine rC ?_
                      refine rQ iL ?_;iterate 2 refine rC ?_
                      iterate 3 refine rS ?_
                      refine rQ iF ?_;refine rC ?_;refine nR ?_;iterate 2 refine rC ?_
                      refine rP ?_;refine rC ?_;refine rP ?_;refine rQ iB ?_;refine rP ?_;refine rQ iM ?_;refine rP ?_;refine rQ (eql_data rfl rfl rfl rfl (by kernel_rfl) (by decide) (block_eq x.value zBk)) ?_
                      refine rQ iG ?_;refine nS ?_;refine wT ?_;refine sR ?_;refine rC ?_;refine nS ?_;refine wc_ret ?_;refine blk_r ?_;refine seq_r ?_
                      exact ⟨trivial, [], lf⟩
                    | false =>
                      refine fnIs_of tab_ok Tryz.func55 rfl rfl rfl ?_;refine sR ?_;refine rN ?_;refine rC ?_;refine nR ?_;refine rQ (build_array tab_ok rfl rfl rfl) ?_;refine rN ?_;refine rW ?_
                      refine nR ?_;refine rC ?_;refine rQ iB ?_;iterate 2 refine rC ?_
                      refine rO ?_;refine rC ?_;refine rO ?_;refine rQ iB ?_;refine rO ?_;refine rC ?_;refine rQ iT ?_;refine rC ?_;refine nQ ?_;refine sR ?_;refine rC ?_;refine rQ iB ?_
                      refine nS ?_;refine wc_block ?_;refine sR ?_;iterate 2 refine rC ?_
                      refine nS ?_;refine wF ?_;refine sR ?_;iterate 2 refine rC ?_
                      refine nS ?_;refine wT ?_;refine qR ?_;iterate 3 refine rC ?_
                      refine rO ?_;refine rC ?_;refine rO ?_;refine rC ?_;refine rO ?_;refine rQ iB ?_;refine rO ?_;refine rQ (call_r hpd rfl rfl (arg_e (arg_e arg_nil)) (.inl rfl) (fun _ => rfl)) ?_
                      refine rO ?_;refine rC ?_;refine rQ iF ?_;refine rC ?_;refine rO ?_;refine rC ?_;refine rO ?_;refine rQ iB ?_;refine rO ?_;refine rQ (call_r hz rfl rfl (arg_e arg_nil) (.inl rfl) (fun _ => rfl)) ?_
                      refine rO ?_;refine rC ?_;refine rQ iF ?_;refine nS ?_;refine wG ?_;refine kS ?_;refine qR ?_;refine rC ?_;refine rQ iB ?_;iterate 2 refine rC ?_
                      refine rO ?_;refine rC ?_;refine rO ?_;refine rQ iB ?_;refine rO ?_;refine rC ?_;refine rQ iT ?_;refine rC ?_;refine rO ?_;refine rC ?_;refine rO ?_;refine rQ iB ?_
                      refine rO ?_;refine rC ?_;refine rQ iT ?_;refine rC ?_;refine rO ?_;refine rC ?_;refine rO ?_;refine rQ iB ?_;refine rO ?_;refine rC ?_;refine rQ iT ?_;refine nS ?_
                      refine wF ?_;refine kS ?_;refine sR ?_;iterate 3 refine rC ?_
                      refine rQ iB ?_;refine rQ (call_r hpd rfl rfl (arg_e (arg_e arg_nil)) (.inl rfl) (fun _ => rfl)) ?_;refine rQ (index_arr tab_ok rfl rfl rfl rfl rfl (by omega) hy) ?_
                      iterate 2 refine rC ?_
                      refine rQ iL ?_;iterate 2 refine rC ?_
                      iterate 3 refine rS ?_
                      refine rQ iF ?_;refine rC ?_;refine nR ?_;iterate 2 refine rC ?_
                      refine rP ?_;refine rC ?_;refine rP ?_;refine rQ iB ?_;refine rP ?_;refine rQ iM ?_;refine rP ?_;refine rQ (eql_data rfl rfl rfl rfl (by kernel_rfl) (by decide) (block_eq x.value zBk)) ?_
                      refine rQ iG ?_;refine nS ?_;refine wF ?_;refine wc_skip ?_;refine blk_n ?_;refine seq_n ?_;refine sR ?_;refine rC ?_;refine nS ?_;refine wc_ret ?_
                      exact ⟨trivial, [], lf⟩
                | true =>
                  refine fnIs_of tab_ok Tryz.func55 rfl rfl rfl ?_;refine sR ?_;refine rN ?_;refine rC ?_;refine nR ?_;refine rQ (build_array tab_ok rfl rfl rfl) ?_;refine rN ?_;refine rW ?_
                  refine nR ?_;refine rC ?_;refine rQ iB ?_;iterate 2 refine rC ?_
                  refine rO ?_;refine rC ?_;refine rO ?_;refine rQ iB ?_;refine rO ?_;refine rC ?_;refine rQ iT ?_;refine rC ?_;refine nQ ?_;refine sR ?_;refine rC ?_;refine rQ iB ?_
                  refine nS ?_;refine wc_block ?_;refine sR ?_;iterate 2 refine rC ?_
                  refine nS ?_;refine wF ?_;refine sR ?_;iterate 2 refine rC ?_
                  refine nS ?_;refine wT ?_;refine qR ?_;iterate 3 refine rC ?_
                  refine rO ?_;refine rC ?_;refine rO ?_;refine rC ?_;refine rO ?_;refine rQ iB ?_;refine rO ?_;refine rQ (call_r hpd rfl rfl (arg_e (arg_e arg_nil)) (.inl rfl) (fun _ => rfl)) ?_
                  refine rO ?_;refine rC ?_;refine rQ iF ?_;refine rC ?_;refine rO ?_;refine rC ?_;refine rO ?_;refine rQ iB ?_;refine rO ?_;refine rQ (call_r hz rfl rfl (arg_e arg_nil) (.inl rfl) (fun _ => rfl)) ?_
                  refine rO ?_;refine rC ?_;refine rQ iF ?_;refine nS ?_;refine wG ?_;refine kS ?_;refine qR ?_;refine rC ?_;refine rQ iB ?_;iterate 2 refine rC ?_
                  refine rO ?_;refine rC ?_;refine rO ?_;refine rQ iB ?_;refine rO ?_;refine rC ?_;refine rQ iT ?_;refine rC ?_;refine rO ?_;refine rC ?_;refine rO ?_;refine rQ iB ?_
                  refine rO ?_;refine rC ?_;refine rQ iT ?_;refine rC ?_;refine rO ?_;refine rC ?_;refine rO ?_;refine rQ iB ?_;refine rO ?_;refine rC ?_;refine rQ iT ?_;refine nS ?_
                  refine wT ?_;refine sR ?_;refine rC ?_;refine nS ?_;refine wc_ret ?_;refine seq_r ?_;refine blk_r ?_;refine seq_r ?_
                  exact ⟨trivial, [], lf⟩
        · rw [decide_eq_false h4]
          rw [if_neg h4] at hz
          refine fnIs_of tab_ok Tryz.func55 rfl rfl rfl ?_;refine sR ?_;refine rN ?_;refine rC ?_;refine nR ?_;refine rQ (build_array tab_ok rfl rfl rfl) ?_;refine rN ?_;refine rW ?_
          refine nR ?_;refine rC ?_;refine rQ iB ?_;iterate 2 refine rC ?_
          refine rO ?_;refine rC ?_;refine rO ?_;refine rQ iB ?_;refine rO ?_;refine rC ?_;refine rQ iT ?_;refine rC ?_;refine nQ ?_;refine sR ?_;refine rC ?_;refine rQ iB ?_
          refine nS ?_;refine wc_block ?_;refine sR ?_;iterate 2 refine rC ?_
          refine nS ?_;refine wF ?_;refine sR ?_;iterate 2 refine rC ?_
          refine nS ?_;refine wT ?_;refine qR ?_;iterate 3 refine rC ?_
          refine rO ?_;refine rC ?_;refine rO ?_;refine rC ?_;refine rO ?_;refine rQ iB ?_;refine rO ?_;refine rQ (call_r hpd rfl rfl (arg_e (arg_e arg_nil)) (.inl rfl) (fun _ => rfl)) ?_
          refine rO ?_;refine rC ?_;refine rQ iF ?_;refine rC ?_;refine rO ?_;refine rC ?_;refine rO ?_;refine rQ iB ?_;refine rO ?_;refine rQ (call_r hz rfl rfl (arg_e arg_nil) (.inl rfl) (fun _ => rfl)) ?_
          refine rO ?_;refine rC ?_;refine rQ iF ?_;refine nS ?_;refine wV ?_;refine sR ?_;refine rC ?_;refine nS ?_;refine wc_ret ?_;refine seq_r ?_;refine blk_r ?_;refine seq_r ?_
          exact ⟨trivial, [], lf⟩
end Go.Proofs.YtmojbghcngdkpaaGreatDoor

namespace Go.Proofs.YtmojbghcngdkpaaGreatDoor
open Go.Eng Go.Plain
set_option maxHeartbeats 8000000
set_option maxRecDepth 20000
attribute [local irreducible] WC RegS RegD SeqQ BlkQ ScoQ RegK CutK Sat SatN FnIs LoopQ StepIs OpIs
theorem fit3_is (h : List HEv) (x : HEv) (k1 : x.kind ≠ 1) (k2 : x.kind ≠ 2) (c0 c3 : Bool) (h0 : decide (0 ≤ x.client) = c0) (h3 : decide (x.kind = 3) = c3) : FitIs h x (c3 && crash1 x) := by
  have d1 : decide (x.kind = 1) = false := decide_eq_false k1
  have d2 : decide (x.kind = 2) = false := decide_eq_false k2
  have hz := zero_is x.op
  unfold crash1
  cases c3 with
  | false =>
    cases c0 with
    | false =>
      refine fnIs_of tab_ok Tryz.func55 rfl rfl rfl ?_;refine sR ?_;refine rN ?_;refine rC ?_;refine nR ?_;refine rQ (build_array tab_ok rfl rfl rfl) ?_;refine rN ?_;refine rW ?_
      refine nR ?_;refine rC ?_;refine rQ iB ?_;iterate 2 refine rC ?_
      iterate 3 refine rS ?_
      refine rQ iF ?_;refine rC ?_;refine nQ ?_;refine sR ?_;refine rC ?_;refine rQ iB ?_;refine nS ?_;refine wc_block ?_;refine sR ?_;iterate 2 refine rC ?_
      refine nS ?_;refine wF ?_;refine sR ?_;iterate 2 refine rC ?_
      refine nS ?_;refine wF ?_;refine sR ?_;iterate 2 refine rC ?_
      refine nS ?_;refine wF ?_;refine wc_skip ?_;refine blk_n ?_;refine seq_n ?_;refine sR ?_;refine rC ?_;refine nS ?_;refine wc_ret ?_
      exact ⟨trivial, [], lf⟩
    | true =>
      refine fnIs_of tab_ok Tryz.func55 rfl rfl rfl ?_;refine sR ?_;refine rN ?_;refine rC ?_;refine nR ?_;refine rQ (build_array tab_ok rfl rfl rfl) ?_;refine rN ?_;refine rW ?_
      refine nR ?_;refine rC ?_;refine rQ iB ?_;iterate 2 refine rC ?_
      refine rO ?_;refine rC ?_;refine rO ?_;refine rQ iB ?_;refine rO ?_;refine rC ?_;refine rQ iT ?_;refine rC ?_;refine nQ ?_;refine sR ?_;refine rC ?_;refine rQ iB ?_
      refine nS ?_;refine wc_block ?_;refine sR ?_;iterate 2 refine rC ?_
      refine nS ?_;refine wF ?_;refine sR ?_;iterate 2 refine rC ?_
      refine nS ?_;refine wF ?_;refine sR ?_;iterate 2 refine rC ?_
      refine nS ?_;refine wF ?_;refine wc_skip ?_;refine blk_n ?_;refine seq_n ?_;refine sR ?_;refine rC ?_;refine nS ?_;refine wc_ret ?_
      exact ⟨trivial, [], lf⟩
  | true =>
    obtain ⟨c1, h1⟩ : ∃ c, decide (x.client = 0) = c := ⟨_, rfl⟩
    rw [h1]
    cases c0 with
    | false =>
      have e1 : c1 = false := by rw [← h1]; exact decide_eq_false (by have := of_decide_eq_false h0; omega)
      subst e1
      refine fnIs_of tab_ok Tryz.func55 rfl rfl rfl ?_;refine sR ?_;refine rN ?_;refine rC ?_;refine nR ?_;refine rQ (build_array tab_ok rfl rfl rfl) ?_;refine rN ?_;refine rW ?_
      refine nR ?_;refine rC ?_;refine rQ iB ?_;iterate 2 refine rC ?_
      iterate 3 refine rS ?_
      refine rQ iF ?_;refine rC ?_;refine nQ ?_;refine sR ?_;refine rC ?_;refine rQ iB ?_;refine nS ?_;refine wc_block ?_;refine sR ?_;iterate 2 refine rC ?_
      refine nS ?_;refine wF ?_;refine sR ?_;iterate 2 refine rC ?_
      refine nS ?_;refine wF ?_;refine sR ?_;iterate 2 refine rC ?_
      refine nS ?_;refine wT ?_;refine sR ?_;refine rC ?_;refine rQ iB ?_;iterate 2 refine rC ?_
      iterate 4 refine rS ?_
      refine rQ iF ?_;refine rC ?_;iterate 4 refine rT ?_
      refine rQ iG ?_;refine rC ?_;iterate 3 refine rT ?_
      refine rQ iG ?_;refine nS ?_;refine wG ?_;refine wc_skip ?_;refine blk_n ?_;refine seq_n ?_;refine sR ?_;refine rC ?_;refine nS ?_;refine wc_ret ?_
      exact ⟨trivial, [], lf⟩
    | true =>
      cases c1 with
      | false =>
        refine fnIs_of tab_ok Tryz.func55 rfl rfl rfl ?_;refine sR ?_;refine rN ?_;refine rC ?_;refine nR ?_;refine rQ (build_array tab_ok rfl rfl rfl) ?_;refine rN ?_;refine rW ?_
        refine nR ?_;refine rC ?_;refine rQ iB ?_;iterate 2 refine rC ?_
        refine rO ?_;refine rC ?_;refine rO ?_;refine rQ iB ?_;refine rO ?_;refine rC ?_;refine rQ iT ?_;refine rC ?_;refine nQ ?_;refine sR ?_;refine rC ?_;refine rQ iB ?_
        refine nS ?_;refine wc_block ?_;refine sR ?_;iterate 2 refine rC ?_
        refine nS ?_;refine wF ?_;refine sR ?_;iterate 2 refine rC ?_
        refine nS ?_;refine wF ?_;refine sR ?_;iterate 2 refine rC ?_
        refine nS ?_;refine wT ?_;refine sR ?_;refine rC ?_;refine rQ iB ?_;iterate 2 refine rC ?_
        iterate 4 refine rS ?_
        refine rQ iF ?_;refine rC ?_;iterate 4 refine rT ?_
        refine rQ iG ?_;refine rC ?_;iterate 3 refine rT ?_
        refine rQ iG ?_;refine nS ?_;refine wG ?_;refine wc_skip ?_;refine blk_n ?_;refine seq_n ?_;refine sR ?_;refine rC ?_;refine nS ?_;refine wc_ret ?_
        exact ⟨trivial, [], lf⟩
      | true =>
        by_cases h4 : x.op = zOp
        · rw [decide_eq_true h4]
          rw [if_pos h4] at hz
          obtain ⟨c5, h5⟩ : ∃ c, decide (x.value = zBk) = c := ⟨_, rfl⟩
          rw [h5]
          cases c5 with
          | false =>
            refine fnIs_of tab_ok Tryz.func55 rfl rfl rfl ?_;refine sR ?_;refine rN ?_;refine rC ?_;refine nR ?_;refine rQ (build_array tab_ok rfl rfl rfl) ?_;refine rN ?_;refine rW ?_
            refine nR ?_;refine rC ?_;refine rQ iB ?_;iterate 2 refine rC ?_
            refine rO ?_;refine rC ?_;refine rO ?_;refine rQ iB ?_;refine rO ?_;refine rC ?_;refine rQ iT ?_;refine rC ?_;refine nQ ?_;refine sR ?_;refine rC ?_;refine rQ iB ?_
            refine nS ?_;refine wc_block ?_;refine sR ?_;iterate 2 refine rC ?_
            refine nS ?_;refine wF ?_;refine sR ?_;iterate 2 refine rC ?_
            refine nS ?_;refine wF ?_;refine sR ?_;iterate 2 refine rC ?_
            refine nS ?_;refine wT ?_;refine sR ?_;refine rC ?_;refine rQ iB ?_;iterate 2 refine rC ?_
            refine rO ?_;refine rC ?_;refine rO ?_;refine rQ iB ?_;refine rO ?_;refine rQ (call_r hz rfl rfl (arg_e arg_nil) (.inl rfl) (fun _ => rfl)) ?_;refine rO ?_;refine rC ?_
            refine rQ iT ?_;refine rC ?_;refine rP ?_;refine rC ?_;refine rP ?_;refine rQ iB ?_;refine rP ?_;refine rQ iM ?_;refine rP ?_;refine rQ (eql_data rfl rfl rfl rfl (by kernel_rfl) (by decide) (block_eq x.value zBk)) ?_
            refine rQ iU ?_;refine rC ?_;iterate 3 refine rS ?_
            refine rQ iF ?_;refine nS ?_;refine wG ?_;refine wc_skip ?_;refine blk_n ?_;refine seq_n ?_;refine sR ?_;refine rC ?_;refine nS ?_;refine wc_ret ?_
            exact ⟨trivial, [], lf⟩
          | true =>
            obtain ⟨c6, h6⟩ : ∃ c, decide (x.err = 0) = c := ⟨_, rfl⟩
            rw [h6]
            cases c6 with
            | false =>
              refine fnIs_of tab_ok Tryz.func55 rfl rfl rfl ?_;refine sR ?_;refine rN ?_;refine rC ?_;refine nR ?_;refine rQ (build_array tab_ok rfl rfl rfl) ?_;refine rN ?_;refine rW ?_
              refine nR ?_;refine rC ?_;refine rQ iB ?_;iterate 2 refine rC ?_
              refine rO ?_;refine rC ?_;refine rO ?_;refine rQ iB ?_;refine rO ?_;refine rC ?_;refine rQ iT ?_;refine rC ?_;refine nQ ?_;refine sR ?_;refine rC ?_;refine rQ iB ?_
              refine nS ?_;refine wc_block ?_;refine sR ?_;iterate 2 refine rC ?_
              refine nS ?_;refine wF ?_;refine sR ?_;iterate 2 refine rC ?_
              refine nS ?_;refine wF ?_;refine sR ?_;iterate 2 refine rC ?_
              refine nS ?_;refine wT ?_;refine sR ?_;refine rC ?_;refine rQ iB ?_;iterate 2 refine rC ?_
              refine rO ?_;refine rC ?_;refine rO ?_;refine rQ iB ?_;refine rO ?_;refine rQ (call_r hz rfl rfl (arg_e arg_nil) (.inl rfl) (fun _ => rfl)) ?_;refine rO ?_;refine rC ?_
              refine rQ iT ?_;refine rC ?_;refine rP ?_;refine rC ?_;refine rP ?_;refine rQ iB ?_;refine rP ?_;refine rQ iM ?_;refine rP ?_;refine rQ (eql_data rfl rfl rfl rfl (by kernel_rfl) (by decide) (block_eq x.value zBk)) ?_
              refine rQ iU ?_;refine rC ?_;refine rO ?_;refine rC ?_;refine rO ?_;refine rQ iB ?_;refine rO ?_;refine rC ?_;refine rQ iT ?_;refine nS ?_;refine wF ?_;refine wc_skip ?_
              refine blk_n ?_;refine seq_n ?_;refine sR ?_;refine rC ?_;refine nS ?_;refine wc_ret ?_
              exact ⟨trivial, [], lf⟩
            | true =>
              refine fnIs_of tab_ok Tryz.func55 rfl rfl rfl ?_;refine sR ?_;refine rN ?_;refine rC ?_;refine nR ?_;refine rQ (build_array tab_ok rfl rfl rfl) ?_;refine rN ?_;refine rW ?_
              refine nR ?_;refine rC ?_;refine rQ iB ?_;iterate 2 refine rC ?_
              refine rO ?_;refine rC ?_;refine rO ?_;refine rQ iB ?_;refine rO ?_;refine rC ?_;refine rQ iT ?_;refine rC ?_;refine nQ ?_;refine sR ?_;refine rC ?_;refine rQ iB ?_
              refine nS ?_;refine wc_block ?_;refine sR ?_;iterate 2 refine rC ?_
              refine nS ?_;refine wF ?_;refine sR ?_;iterate 2 refine rC ?_
              refine nS ?_;refine wF ?_;refine sR ?_;iterate 2 refine rC ?_
              refine nS ?_;refine wT ?_;refine sR ?_;refine rC ?_;refine rQ iB ?_;iterate 2 refine rC ?_
              refine rO ?_;refine rC ?_;refine rO ?_;refine rQ iB ?_;refine rO ?_;refine rQ (call_r hz rfl rfl (arg_e arg_nil) (.inl rfl) (fun _ => rfl)) ?_;refine rO ?_;refine rC ?_
              refine rQ iT ?_;refine rC ?_;refine rP ?_;refine rC ?_;refine rP ?_;refine rQ iB ?_;refine rP ?_;refine rQ iM ?_;refine rP ?_;refine rQ (eql_data rfl rfl rfl rfl (by kernel_rfl) (by decide) (block_eq x.value zBk)) ?_
              refine rQ iU ?_;refine rC ?_;refine rO ?_;refine rC ?_;refine rO ?_;refine rQ iB ?_;refine rO ?_;refine rC ?_;refine rQ iT ?_;refine nS ?_;refine wT ?_;refine sR ?_
              refine rC ?_;refine nS ?_;refine wc_ret ?_;refine blk_r ?_;refine seq_r ?_
              exact ⟨trivial, [], lf⟩
        · rw [decide_eq_false h4]
          rw [if_neg h4] at hz
          refine fnIs_of tab_ok Tryz.func55 rfl rfl rfl ?_;refine sR ?_;refine rN ?_;refine rC ?_;refine nR ?_;refine rQ (build_array tab_ok rfl rfl rfl) ?_;refine rN ?_;refine rW ?_
          refine nR ?_;refine rC ?_;refine rQ iB ?_;iterate 2 refine rC ?_
          refine rO ?_;refine rC ?_;refine rO ?_;refine rQ iB ?_;refine rO ?_;refine rC ?_;refine rQ iT ?_;refine rC ?_;refine nQ ?_;refine sR ?_;refine rC ?_;refine rQ iB ?_
          refine nS ?_;refine wc_block ?_;refine sR ?_;iterate 2 refine rC ?_
          refine nS ?_;refine wF ?_;refine sR ?_;iterate 2 refine rC ?_
          refine nS ?_;refine wF ?_;refine sR ?_;iterate 2 refine rC ?_
          refine nS ?_;refine wT ?_;refine sR ?_;refine rC ?_;refine rQ iB ?_;iterate 2 refine rC ?_
          refine rO ?_;refine rC ?_;refine rO ?_;refine rQ iB ?_;refine rO ?_;refine rQ (call_r hz rfl rfl (arg_e arg_nil) (.inl rfl) (fun _ => rfl)) ?_;refine rO ?_;refine rC ?_
          refine rQ iT ?_;refine rC ?_;iterate 4 refine rT ?_
          refine rQ iG ?_;refine rC ?_;iterate 3 refine rT ?_
          refine rQ iG ?_;refine nS ?_;refine wG ?_;refine wc_skip ?_;refine blk_n ?_;refine seq_n ?_;refine sR ?_;refine rC ?_;refine nS ?_;refine wc_ret ?_
          exact ⟨trivial, [], lf⟩
theorem fits_is (h : List HEv) (x : HEv) (hL : h.length ≤ 9223372036854775807) : FitIs h x (fitB h x) := by
  unfold fitB
  by_cases k1 : x.kind = 1
  · rw [if_pos k1]
    have := fit1_w h x hL k1 _ _ _ _ _ _ rfl rfl rfl rfl rfl rfl
    have e : decide (((byI x.op.data).length : Int) ≤ 64) = decide (x.op.data.length ≤ 64) := decide_eq_decide.2 (by rw [byI_len]; omega)
    rw [e] at this
    exact this
  · rw [if_neg k1]
    by_cases k2 : x.kind = 2
    · rw [if_pos k2]; exact fit2_is h x hL k2
    · rw [if_neg k2]
      have := fit3_is h x k1 k2 _ _ rfl rfl
      by_cases k3 : x.kind = 3
      · rw [if_pos k3]; rw [decide_eq_true k3] at this; exact this
      · rw [if_neg k3]; rw [decide_eq_false k3] at this; exact this
def rchkG (h : List HEv) : Nat → Nat → Int × Int
  | 0, _ => (0, 0)
  | n + 1, i => match h[i]? with
    | none => (0, 0)
    | some x => if fitB (h.take i) x then rchkG h n (i + 1) else ((i : Int), 18)
def rchk (h : List HEv) : Int × Int := if 8192 < h.length then (0, 3) else rchkG h h.length 0
theorem rcheck24_is (h : List HEv) (hL : h.length ≤ 9223372036854775807) : FnIs Tryz.prog 19 [.d (encH h)] [] (.tup (.acons (.int .i64 (rchk h).1) (.acons (.int .i64 (rchk h).2) .anil))) [] := by
  unfold rchk
  obtain ⟨Z, hZ⟩ : ∃ Z, decide ((8192 : Int) < (h.length : Int)) = Z := ⟨_, rfl⟩
  refine fnIs_of tab_ok Tryz.func19 rfl rfl rfl ?_
  cases Z with
  | true =>
    rw [if_pos (by have := of_decide_eq_true hZ; omega)]
    refine sR ?_;iterate 2 refine rC ?_
    refine nQ ?_;refine sR ?_;refine rC ?_;refine rQ iE ?_;refine rC ?_;refine nS ?_;refine wT ?_;refine sR ?_;iterate 2 refine rC ?_
    refine nS ?_;refine wc_ret ?_;refine seq_r ?_
    exact ⟨trivial, [], lf⟩
  | false =>
    rw [if_neg (by have := of_decide_eq_false hZ; omega)]
    refine sR ?_;iterate 2 refine rC ?_
    refine nQ ?_;refine sR ?_;refine rC ?_;refine rQ iE ?_;refine rC ?_;refine nS ?_;refine wF ?_;refine kS ?_;refine qR ?_;refine rC ?_;refine nS ?_;refine wc_block ?_
    refine wc_inv (fun i : Nat => ⟨[(4, .int .i64 i), (0, .d (encH h))], [], 72, Tryz.f19.ntmps, 64⟩) (fun i => i ≤ h.length ∧ rchkG h (h.length - i) i = rchkG h h.length 0) (fun i => h.length - i) 0 [] ⟨Nat.zero_le _, rfl⟩
      (.of rfl rfl rfl rfl rfl ⟨⟨_, rfl, .refl _⟩, rfl, ⟨_, rfl, .refl _⟩, rfl, trivial⟩ trivial) ?_
    rintro i ⟨hi, hgo⟩
    refine wc_of ?_;refine qR ?_;iterate 2 refine rC ?_
    refine rQ iE ?_;refine rC ?_;refine nS ?_
    refine wc_cond rfl (fun h3 => ?_) (fun h3 => ?_)
    · have hlt : i < h.length := by have := of_decide_eq_true h3; omega
      obtain ⟨x, hx⟩ : ∃ x, h[i]? = some x := ⟨_, List.getElem?_eq_getElem hlt⟩
      have hx' : h[((i : Int)).toNat]? = some x := by rw [Int.toNat_natCast]; exact hx
      have hf := fits_is (h.take i) x (by rw [List.length_take]; omega)
      obtain ⟨k, hk⟩ : ∃ k, h.length - i = k + 1 := ⟨h.length - i - 1, by omega⟩
      have hk' : h.length - (i + 1) = k := by omega
      rw [hk, rchkG, hx] at hgo
      simp only at hgo
      cases hb : fitB (h.take i) x with
      | true =>
        rw [hb] at hgo hf
        refine kS ?_;refine wc_seq ?_;refine wc_block ?_;refine wc_seq ?_;refine wc_draw (by kernel_rfl) ?_;refine dC [0] [] ?_;refine dC [4] [] ?_;refine dQ [14, 15] [] (slice_to (m := (i : Int)) tab_ok rfl rfl rfl rfl (by omega) (by omega)) ?_
        refine dC [0] [] ?_;refine dC [4] [] ?_;refine dQ [17, 18] [] (index_arr tab_ok rfl rfl rfl rfl rfl (by omega) hx') ?_;refine dQ [19] [] iL ?_;refine dQ [16, 20] [] (call_r hf rfl rfl (arg_e (arg_e arg_nil)) (.inl rfl) (fun _ => rfl)) ?_
        refine dC [21] [] ?_;refine dreg_end (by kernel_rfl) ?_;refine seq_n ?_;refine wG ?_;refine wc_skip ?_;refine blk_n ?_;refine seq_n ?_;refine wc_region ?_;refine rC ?_
        refine rQ iD ?_;refine rC ?_;refine reg_nil ?_
        exact loop_n (i + 1) [] ⟨hlt, by rw [hk']; exact hgo⟩ (by omega) (.of rfl rfl rfl rfl rfl ⟨⟨_, rfl, .refl _⟩, rfl, ⟨_, rfl, .refl _⟩, rfl, trivial⟩ trivial)
      | false =>
        rw [hb] at hgo hf
        rw [← hgo]
        refine kS ?_;refine wc_seq ?_;refine wc_block ?_;refine wc_seq ?_;refine wc_draw (by kernel_rfl) ?_;refine dC [0] [] ?_;refine dC [4] [] ?_;refine dQ [14, 15] [] (slice_to (m := (i : Int)) tab_ok rfl rfl rfl rfl (by omega) (by omega)) ?_
        refine dC [0] [] ?_;refine dC [4] [] ?_;refine dQ [17, 18] [] (index_arr tab_ok rfl rfl rfl rfl rfl (by omega) hx') ?_;refine dQ [19] [] iL ?_;refine dQ [16, 20] [] (call_r hf rfl rfl (arg_e (arg_e arg_nil)) (.inl rfl) (fun _ => rfl)) ?_
        refine dC [21] [] ?_;refine dreg_end (by kernel_rfl) ?_;refine seq_n ?_;refine wV ?_;refine sR ?_;iterate 3 refine rC ?_
        refine nS ?_;refine wc_ret ?_;refine blk_r ?_;refine seq_r ?_;refine loop_r ?_;refine blk_r ?_;refine seq_r ?_
        exact ⟨trivial, [], lf⟩
    · have he : i = h.length := by have := of_decide_eq_false h3; omega
      subst he
      rw [Nat.sub_self] at hgo
      rw [← hgo]
      refine wc_exit ?_;refine seq_x ?_;refine loop_x ?_;refine blk_x ?_;refine seq_n ?_;refine sR ?_;iterate 2 refine rC ?_
      refine nS ?_;refine wc_ret ?_
      exact ⟨trivial, [], lf⟩
def fewB (h : List HEv) : Bool := decide (h.length ≤ 60) && h.all fun x => decide (x.op.data.length ≤ 70)
theorem few_no {h : List HEv} {x : HEv} (hx : x ∈ h) (hd : ¬ x.op.data.length ≤ 70) : fewB h = false := by
  have : h.all (fun x => decide (x.op.data.length ≤ 70)) = false := List.all_eq_false.2 ⟨x, hx, by simpa using hd⟩
  rw [fewB, this, Bool.and_false]
theorem few_is (h : List HEv) : FnIs Tryz.prog 17 [.d (encH h)] [] (.d (i6 (if fewB h then 1 else 0))) [] := by
  obtain ⟨Z, hZ⟩ : ∃ Z, decide ((60 : Int) < (h.length : Int)) = Z := ⟨_, rfl⟩
  refine fnIs_of tab_ok Tryz.func17 rfl rfl rfl ?_
  cases Z with
  | true =>
    rw [show fewB h = false by rw [fewB, decide_eq_false (by have := of_decide_eq_true hZ; omega), Bool.false_and]]
    refine sR ?_;refine rC ?_;refine nQ ?_;refine sR ?_;refine rC ?_;refine rQ iE ?_;refine rC ?_;refine nS ?_;refine wT ?_;refine sR ?_;refine rC ?_;refine nS ?_;refine wc_ret ?_
    refine seq_r ?_
    exact ⟨trivial, [], lf⟩
  | false =>
    have h60 : h.length ≤ 60 := by have := of_decide_eq_false hZ; omega
    refine sR ?_;refine rC ?_;refine nQ ?_;refine sR ?_;refine rC ?_;refine rQ iE ?_;refine rC ?_;refine nS ?_;refine wF ?_;refine kS ?_;refine qR ?_;refine rC ?_;refine nS ?_
    refine wc_block ?_
    refine wc_inv (fun i : Nat => ⟨[(3, .int .i64 i), (0, .d (encH h))], [], 72, Tryz.f17.ntmps, 64⟩) (fun i => i ≤ h.length ∧ ∀ j, j < i → ∀ y, h[j]? = some y → y.op.data.length ≤ 70) (fun i => h.length - i) 0 [] ⟨Nat.zero_le _, fun j hj => absurd hj (Nat.not_lt_zero _)⟩
      (.of rfl rfl rfl rfl rfl ⟨⟨_, rfl, .refl _⟩, rfl, ⟨_, rfl, .refl _⟩, rfl, trivial⟩ trivial) ?_
    rintro i ⟨hi, hall⟩
    refine wc_of ?_;refine qR ?_;iterate 2 refine rC ?_
    refine rQ iE ?_;refine rC ?_;refine nS ?_
    refine wc_cond rfl (fun h3 => ?_) (fun h3 => ?_)
    · have hlt : i < h.length := by have := of_decide_eq_true h3; omega
      obtain ⟨x, hx⟩ : ∃ x, h[i]? = some x := ⟨_, List.getElem?_eq_getElem hlt⟩
      have hx' : h[((i : Int)).toNat]? = some x := by rw [Int.toNat_natCast]; exact hx
      by_cases hd : x.op.data.length ≤ 70
      · have dd : decide ((70 : Int) < ((byI x.op.data).length : Int)) = false := decide_eq_false (by rw [byI_len]; omega)
        refine kS ?_;refine wc_seq ?_;refine wc_block ?_;refine sR ?_;iterate 2 refine rC ?_
        refine rQ (index_arr tab_ok rfl rfl rfl rfl rfl (by omega) hx') ?_;iterate 2 refine rC ?_
        refine rQ iL ?_;refine rQ iE ?_;refine rC ?_;refine nS ?_;refine wF ?_;refine wc_skip ?_;refine blk_n ?_;refine seq_n ?_;refine wc_region ?_;refine rC ?_;refine rQ iD ?_
        refine rC ?_;refine reg_nil ?_
        refine loop_n (i + 1) [] ⟨hlt, fun j hj y hy => ?_⟩ (by omega) (.of rfl rfl rfl rfl rfl ⟨⟨_, rfl, .refl _⟩, rfl, ⟨_, rfl, .refl _⟩, rfl, trivial⟩ trivial)
        by_cases e : j = i
        · subst e; rw [hx] at hy; cases hy; exact hd
        · exact hall j (by omega) y hy
      · have dd : decide ((70 : Int) < ((byI x.op.data).length : Int)) = true := decide_eq_true (by rw [byI_len]; omega)
        rw [few_no (List.mem_of_getElem? hx) hd]
        refine kS ?_;refine wc_seq ?_;refine wc_block ?_;refine sR ?_;iterate 2 refine rC ?_
        refine rQ (index_arr tab_ok rfl rfl rfl rfl rfl (by omega) hx') ?_;iterate 2 refine rC ?_
        refine rQ iL ?_;refine rQ iE ?_;refine rC ?_;refine nS ?_;refine wT ?_;refine sR ?_;refine rC ?_;refine nS ?_;refine wc_ret ?_;refine blk_r ?_;refine seq_r ?_;refine loop_r ?_
        refine blk_r ?_;refine seq_r ?_
        exact ⟨trivial, [], lf⟩
    · have he : i = h.length := by have := of_decide_eq_false h3; omega
      rw [show fewB h = true by
        rw [fewB, decide_eq_true h60, Bool.true_and, List.all_eq_true]
        intro y hy
        obtain ⟨j, hj⟩ := List.mem_iff_getElem?.1 hy
        exact decide_eq_true (hall j (by have := (List.getElem?_eq_some_iff.1 hj).1; omega) y hj)]
      refine wc_exit ?_;refine seq_x ?_;refine loop_x ?_;refine blk_x ?_;refine seq_n ?_;refine sR ?_;refine rC ?_;refine nS ?_;refine wc_ret ?_
      exact ⟨trivial, [], lf⟩
end Go.Proofs.YtmojbghcngdkpaaGreatDoor

namespace Go.Proofs.YtmojbghcngdkpaaGreatDoor
open Go.Eng Go.Plain
structure Track (p : List HEv) (s : RdS) : Prop where
  ok : s.Ok p.length
  idle : ∀ c : Nat, c < 8 → pend p c < 0 → s.busy[c]? = some 0
  busy : ∀ c : Nat, c < 8 → 0 ≤ pend p c → ∃ b o y, s.busy[c]? = some b ∧ 0 < b ∧ s.all[(b - 1).toNat]? = some o ∧ p[(pend p c).toNat]? = some y ∧ o.op = y.op
  free : ∀ c d : Nat, c < 8 → d < 8 → c ≠ d → ∀ b, s.busy[c]? = some b → s.busy[d]? = some b → b = 0
theorem track0 : Track [] rd0 := ⟨rd0_ok, fun c hc _ => by
  match c, hc with
  | 0, _ => rfl
  | 1, _ => rfl
  | 2, _ => rfl
  | 3, _ => rfl
  | 4, _ => rfl
  | 5, _ => rfl
  | 6, _ => rfl
  | 7, _ => rfl, fun c _ h => absurd h (by rw [show pend [] ((c : Nat) : Int) = -1 from rfl]; decide), fun c d hc hd _ b hb _ => by
  have := List.mem_of_getElem? hb
  have hz : ∀ b ∈ rd0.busy, b = 0 := by decide
  exact hz b this⟩
theorem Track.fits {p : List HEv} {s : RdS} (T : Track p s) (x : HEv) : (takeS s x).2 = fitB p x := by
  unfold takeS fitB
  simp only
  by_cases k1 : x.kind = 1
  · rw [if_pos k1, if_pos k1]
    have e : inv1 s x = fit1 p x := by
      unfold inv1 fit1
      by_cases c0 : 0 ≤ x.client
      · by_cases c8 : x.client < 8
        · have c7 : x.client ≤ 7 := by omega
          have hc : ((x.client.toNat : Nat) : Int) = x.client := Int.toNat_of_nonneg c0
          have hb : decide (s.busy[x.client.toNat]? = some 0) = decide (pend p x.client < 0) := by
            by_cases hp : pend p x.client < 0
            · rw [T.idle x.client.toNat (by omega) (by rw [hc]; exact hp), decide_eq_true hp]; rfl
            · obtain ⟨b, o, y, h1, h2, _⟩ := T.busy x.client.toNat (by omega) (by rw [hc]; omega)
              rw [h1, decide_eq_false hp]
              exact decide_eq_false fun e => by cases e; omega
          rw [hb, decide_eq_true c8, decide_eq_true c7]
        · rw [decide_eq_false c8, decide_eq_false (by omega : ¬ x.client ≤ 7)]; simp
      · rw [decide_eq_false c0]; simp
    rw [← e]
    cases inv1 s x <;> rfl
  · rw [if_neg k1, if_neg k1]
    by_cases k2 : x.kind = 2
    · rw [if_pos k2, if_pos k2]
      have e : ret1 s x = fit2 p x := by
        unfold ret1 fit2
        by_cases c0 : 0 ≤ x.client
        · by_cases c8 : x.client < 8
          · have c7 : x.client ≤ 7 := by omega
            have hc : ((x.client.toNat : Nat) : Int) = x.client := Int.toNat_of_nonneg c0
            by_cases hp : pend p x.client < 0
            · rw [T.idle x.client.toNat (by omega) (by rw [hc]; exact hp), decide_eq_true hp]
              simp
            · obtain ⟨b, o, y, h1, h2, h3, h4, h5⟩ := T.busy x.client.toNat (by omega) (by rw [hc]; omega)
              rw [hc] at h4
              rw [opOf, h1]
              simp only
              rw [h3, h4, decide_eq_false hp, decide_eq_true c8, decide_eq_true c7, decide_eq_true c0, decide_eq_false (fun e => by cases e; omega : ¬ some b = some 0)]
              simp only [h5]
              cases decide (x.op = zOp) <;> cases kn4 x.err <;> cases decide (x.value = zBk) <;> cases decide (y.op.kind = 1) <;> cases decide (x.err = 0) <;> rfl
          · rw [decide_eq_false c8, decide_eq_false (by omega : ¬ x.client ≤ 7)]; simp
        · rw [decide_eq_false c0]; simp
      rw [← e]
      cases ret1 s x <;> rfl
    · rw [if_neg k2, if_neg k2]
      by_cases k3 : x.kind = 3
      · rw [if_pos k3, if_pos k3]
      · rw [if_neg k3, if_neg k3]
theorem take_kind {s : RdS} {x : HEv} (h : (takeS s x).2 = true) : x.kind = 1 ∧ inv1 s x = true ∨ x.kind = 2 ∧ ret1 s x = true ∨ x.kind = 3 ∧ crash1 x = true := by
  unfold takeS at h
  simp only at h
  by_cases k1 : x.kind = 1
  · rw [if_pos k1] at h
    cases hi : inv1 s x with
    | true => exact .inl ⟨k1, rfl⟩
    | false => rw [hi] at h; cases h
  · rw [if_neg k1] at h
    by_cases k2 : x.kind = 2
    · rw [if_pos k2] at h
      cases hi : ret1 s x with
      | true => exact .inr (.inl ⟨k2, rfl⟩)
      | false => rw [hi] at h; cases h
    · rw [if_neg k2] at h
      by_cases k3 : x.kind = 3
      · rw [if_pos k3] at h; exact .inr (.inr ⟨k3, h⟩)
      · rw [if_neg k3] at h; cases h
theorem inv1_out {s : RdS} {x : HEv} (h : inv1 s x = true) : 0 ≤ x.client ∧ x.client < 8 ∧ s.busy[x.client.toNat]? = some 0 ∧ x.op.data.length ≤ 64 ∧ x.value = zBk ∧ x.err = 0 := by
  simp only [inv1, Bool.and_eq_true, decide_eq_true_eq] at h
  obtain ⟨⟨⟨⟨⟨h1, h2⟩, h3⟩, h4⟩, h5⟩, h6⟩ := h
  exact ⟨h1, h2, h3, h4, h5, h6⟩
theorem ret1_out {s : RdS} {x : HEv} {n : Nat} (hs : s.Ok n) (h : ret1 s x = true) : 0 ≤ x.client ∧ x.client < 8 ∧ x.op = zOp ∧ kn4 x.err = true ∧ ∃ b o, s.busy[x.client.toNat]? = some b ∧ 0 < b ∧ s.all[(b - 1).toNat]? = some o ∧ opOf s x = some o ∧ (x.value = zBk ∨ o.op.kind = 1 ∧ x.err = 0) := by
  simp only [ret1, Bool.and_eq_true, decide_eq_true_eq] at h
  obtain ⟨⟨⟨⟨⟨h1, h2⟩, h3⟩, h4⟩, h5⟩, h6⟩ := h
  obtain ⟨b, hbg⟩ : ∃ b, s.busy[x.client.toNat]? = some b := ⟨_, List.getElem?_eq_getElem (by rw [hs.blen]; omega)⟩
  have hb := hs.busy b (List.mem_of_getElem? hbg)
  have hb0 : b ≠ 0 := by rw [hbg] at h3; simpa using h3
  obtain ⟨o, hog⟩ : ∃ o, s.all[(b - 1).toNat]? = some o := ⟨_, List.getElem?_eq_getElem (by omega)⟩
  have ho : opOf s x = some o := by rw [opOf, hbg]; exact hog
  rw [ho] at h6
  refine ⟨h1, h2, h4, h5, b, o, hbg, by omega, hog, ho, ?_⟩
  simpa [Bool.or_eq_true, Bool.and_eq_true] using h6
theorem take_inv_eq {s : RdS} {x : HEv} (k1 : x.kind = 1) (h : inv1 s x = true) : (takeS s x).1 = ⟨s.busy.set x.client.toNat (s.all.length + 1), s.number.set x.client.toNat ((s.number[x.client.toNat]?.getD 0) + 1), s.era, s.read + 1, s.all ++ [⟨x.client, s.number[x.client.toNat]?.getD 0, s.era, x.op, s.read, -1, zBk, 0⟩]⟩ := by simp [takeS, k1, h]
theorem take_ret_eq {s : RdS} {x : HEv} {b : Int} {o : HOp} (k2 : x.kind = 2) (h : ret1 s x = true) (hb : s.busy[x.client.toNat]? = some b) (ho : opOf s x = some o) : (takeS s x).1 = ⟨s.busy.set x.client.toNat 0, s.number, s.era, s.read + 1, s.all.set (b - 1).toNat { o with returned := s.read, value := x.value, err := x.err }⟩ := by simp [takeS, k2, h, ho, hb]
theorem take_crash_eq {s : RdS} {x : HEv} (k3 : x.kind = 3) : (takeS s x).1 = ⟨zero8, s.number, s.era + 1, s.read + 1, s.all⟩ := by simp [takeS, k3]
theorem get_snoc {α : Type} {p : List α} {x y : α} {k : Nat} (h : p[k]? = some y) : (p ++ [x])[k]? = some y := by
  rw [List.getElem?_append_left (List.getElem?_eq_some_iff.1 h).1]; exact h
theorem Track.next {p : List HEv} {s : RdS} (T : Track p s) {x : HEv} (h : (takeS s x).2 = true) : Track (p ++ [x]) (takeS s x).1 := by
  have hok := T.ok.next x
  have hlen : (p ++ [x]).length = p.length + 1 := by simp
  rcases take_kind h with ⟨k1, hi⟩ | ⟨k2, hi⟩ | ⟨k3, hi⟩
  · obtain ⟨c0, c8, hb, _, _, _⟩ := inv1_out hi
    have e := take_inv_eq k1 hi
    rw [e] at hok ⊢
    have hps : ∀ d : Int, pend (p ++ [x]) d = if x.client = d then (p.length : Int) else pend p d := fun d => by
      rw [pend_snoc, pstep, if_neg (by omega), if_pos k1]
    refine ⟨by rw [hlen]; exact hok, fun d hd hp => ?_, fun d hd hp => ?_, fun c d hc hd hcd b h1 h2 => ?_⟩
    · rw [hps] at hp
      by_cases hcd : x.client = d
      · rw [if_pos hcd] at hp; omega
      · rw [if_neg hcd] at hp
        rw [List.getElem?_set_ne (by omega)]
        exact T.idle d hd hp
    · rw [hps] at hp ⊢
      by_cases hcd : x.client = d
      · rw [if_pos hcd]
        refine ⟨s.all.length + 1, _, x, by rw [show x.client.toNat = d by omega]; exact List.getElem?_set_self (by rw [T.ok.blen]; exact hd), by omega, by
          rw [show ((s.all.length : Int) + 1 - 1).toNat = s.all.length by omega]
          exact List.getElem?_concat_length .., by
          rw [Int.toNat_natCast]
          exact List.getElem?_concat_length .., rfl⟩
      · rw [if_neg hcd] at hp ⊢
        obtain ⟨b, o, y, g1, g2, g3, g4, g5⟩ := T.busy d hd hp
        exact ⟨b, o, y, by rw [List.getElem?_set_ne (by omega)]; exact g1, g2, get_snoc g3, get_snoc g4, g5⟩
    · have hbb : ∀ (k : Nat) (b : Int), s.busy[k]? = some b → b ≤ s.all.length := fun k b hk => (T.ok.busy b (List.mem_of_getElem? hk)).2
      by_cases e1 : x.client.toNat = c
      · subst e1
        rw [List.getElem?_set_self (by rw [T.ok.blen]; exact hc)] at h1
        rw [List.getElem?_set_ne hcd] at h2
        have := hbb _ _ h2
        cases h1
        omega
      · rw [List.getElem?_set_ne e1] at h1
        by_cases e2 : x.client.toNat = d
        · subst e2
          rw [List.getElem?_set_self (by rw [T.ok.blen]; exact hd)] at h2
          have := hbb _ _ h1
          cases h2
          omega
        · rw [List.getElem?_set_ne e2] at h2
          exact T.free c d hc hd hcd b h1 h2
  · obtain ⟨c0, c8, _, _, b, o, hb, hb0, hog, ho, _⟩ := ret1_out T.ok hi
    have e := take_ret_eq k2 hi hb ho
    rw [e] at hok ⊢
    have hps : ∀ d : Int, pend (p ++ [x]) d = if x.client = d then -1 else pend p d := fun d => by
      rw [pend_snoc, pstep, if_neg (by omega), if_neg (by omega), if_pos k2]
    refine ⟨by rw [hlen]; exact hok, fun d hd hp => ?_, fun d hd hp => ?_, fun c d hc hd hcd b' h1 h2 => ?_⟩
    · rw [hps] at hp
      by_cases hcd : x.client = d
      · rw [show x.client.toNat = d by omega]; exact List.getElem?_set_self (by rw [T.ok.blen]; exact hd)
      · rw [if_neg hcd] at hp
        rw [List.getElem?_set_ne (by omega)]
        exact T.idle d hd hp
    · rw [hps] at hp ⊢
      by_cases hcd : x.client = d
      · rw [if_pos hcd] at hp; omega
      · rw [if_neg hcd] at hp ⊢
        obtain ⟨b', o', y, g1, g2, g3, g4, g5⟩ := T.busy d hd hp
        have hne : b' ≠ b := fun e => by
          subst e
          have := T.free x.client.toNat d (by omega) hd (by omega) _ hb g1
          omega
        exact ⟨b', o', y, by rw [List.getElem?_set_ne (by omega)]; exact g1, g2, by rw [List.getElem?_set_ne (by omega)]; exact g3, get_snoc g4, g5⟩
    · by_cases e1 : x.client.toNat = c
      · subst e1
        rw [List.getElem?_set_self (by rw [T.ok.blen]; exact hc)] at h1
        cases h1; rfl
      · rw [List.getElem?_set_ne e1] at h1
        by_cases e2 : x.client.toNat = d
        · subst e2
          rw [List.getElem?_set_self (by rw [T.ok.blen]; exact hd)] at h2
          cases h2; rfl
        · rw [List.getElem?_set_ne e2] at h2
          exact T.free c d hc hd hcd b' h1 h2
  · have e := take_crash_eq (s := s) k3
    rw [e] at hok ⊢
    have hps : ∀ d : Int, pend (p ++ [x]) d = -1 := fun d => by rw [pend_snoc, pstep, if_pos k3]
    have hz : ∀ b ∈ zero8, b = 0 := by decide
    refine ⟨by rw [hlen]; exact hok, fun d hd _ => ?_, fun d hd hp => by rw [hps] at hp; omega, fun c d _ _ _ b h1 _ => hz b (List.mem_of_getElem? h1)⟩
    obtain ⟨b, hb⟩ : ∃ b, zero8[d]? = some b := ⟨_, List.getElem?_eq_getElem hd⟩
    show zero8[d]? = some 0
    rw [hb, hz b (List.mem_of_getElem? hb)]
theorem track_go (h : List HEv) : ∀ (n : Nat) (s : RdS) (i : Nat), h.length - i = n → i ≤ h.length → Track (h.take i) s →
    rchkG h n i = (if 0 ≤ (goS s (h.drop i) i).2 then ((goS s (h.drop i) i).2, 18) else (0, 0)) ∧ ((goS s (h.drop i) i).2 < 0 → Track h (goS s (h.drop i) i).1)
  | 0, s, i, hn, hi, T => by
    have he : i = h.length := by omega
    subst he
    rw [List.drop_length]
    rw [List.take_length] at T
    exact ⟨rfl, fun _ => T⟩
  | n + 1, s, i, hn, hi, T => by
    obtain ⟨x, hx⟩ : ∃ x, h[i]? = some x := ⟨_, List.getElem?_eq_getElem (by omega)⟩
    have htk : h.take (i + 1) = h.take i ++ [x] := by rw [List.take_add_one, hx]; rfl
    rw [goS_step hx, rchkG, hx]
    simp only
    rw [← T.fits x]
    cases hb : (takeS s x).2 with
    | true =>
      simp only [if_pos]
      have T' := T.next hb
      rw [← htk] at T'
      exact track_go h n _ (i + 1) (by omega) (by omega) T'
    | false =>
      simp only [Bool.false_eq_true, if_false]
      rw [if_pos (by omega)]
      exact ⟨rfl, fun hlt => by omega⟩
theorem chk_same (h : List HEv) : chkH h = rchk h := by
  unfold chkH rchk
  by_cases h8 : 8192 < h.length
  · rw [if_pos h8, if_pos h8]
  · rw [if_neg h8, if_neg h8]
    exact (track_go h h.length rd0 0 (by omega) (Nat.zero_le _) track0).1.symm
end Go.Proofs.YtmojbghcngdkpaaGreatDoor
