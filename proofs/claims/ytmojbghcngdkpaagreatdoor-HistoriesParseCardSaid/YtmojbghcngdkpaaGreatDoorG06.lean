/- Texts of the proof: HT, H12, HV, Eng88, Eng87, Eng89, H21, H17, H18, H19, H20, H22, H13, H23, H24, H27, H28, H29, H25, H26, H30. -/
import Derived.Test.YtmojbghcngdkpaaGreatDoorG05
import Derived.Test.YtmojbghcngdkpaaGreatDoorG03
import Derived.Test.YtmojbghcngdkpaaGreatDoorG04
import Derived.Test.YtmojbghcngdkpaaGreatDoorG02
import Derived.Maps.RangeRun

set_option linter.unusedVariables false
set_option linter.unusedSimpArgs false
set_option linter.unusedSectionVars false

namespace Go.Proofs.YtmojbghcngdkpaaGreatDoor
open Go.Eng Go.Plain
structure Track (p : List HEv) (s : RdS) : Prop where
 ok : s.Ok p.length
 idle : ∀ c : Nat, c < 8 → pend p c < 0 → s.busy[c]? = some 0
 busy : ∀ c : Nat, c < 8 → 0 ≤ pend p c → ∃ b o y, s.busy[c]? = some b ∧ 0 < b ∧ s.all[(b - 1).toNat]? = some o ∧ p[(pend p c).toNat]? = some y ∧ o.op = y.op
 free : ∀ c d : Nat, c < 8 → d < 8 → c ≠ d → ∀ b, s.busy[c]? = some b → s.busy[d]? = some b → b = 0
theorem track0 : Track [] rd0 := ⟨rd0_ok, fun c hc _ => by
 match c, hc with
 | 0, _ => rfl
 | 1, _ => rfl
 | 2, _ => rfl
 | 3, _ => rfl
 | 4, _ => rfl
 | 5, _ => rfl
 | 6, _ => rfl
 | 7, _ => rfl, fun c _ h => absurd h (by rw [show pend [] ((c : Nat) : Int) = -1 from rfl]; decide), fun c d hc hd _ b hb _ => by
 have := List.mem_of_getElem? hb
 have hz : ∀ b ∈ rd0.busy, b = 0 := by decide
 exact hz b this⟩
theorem Track.fits {p : List HEv} {s : RdS} (T : Track p s) (x : HEv) : (takeS s x).2 = fitB p x := by
 unfold takeS fitB
 simp only
 by_cases k1 : x.kind = 1
 ·rw [if_pos k1, if_pos k1]
  have e : inv1 s x = fit1 p x := by
   unfold inv1 fit1
   by_cases c0 : 0 ≤ x.client
   ·by_cases c8 : x.client < 8
    ·have c7 : x.client ≤ 7 := by omega
     have hc : ((x.client.toNat : Nat) : Int) = x.client := Int.toNat_of_nonneg c0
     have hb : decide (s.busy[x.client.toNat]? = some 0) = decide (pend p x.client < 0) := by
      by_cases hp : pend p x.client < 0
      ·rw [T.idle x.client.toNat (by omega) (by rw [hc]; exact hp), dT hp]; rfl
      ·obtain ⟨b, o, y, h1, h2, _⟩ := T.busy x.client.toNat (by omega) (by rw [hc]; omega)
       rw [h1, dF hp]
       exact dF fun e => by cases e; omega
     rw [hb, dT c8, dT c7]
    ·rw [dF c8, dF (by omega : ¬ x.client ≤ 7)]; simp
   ·rw [dF c0]; simp
  rw [← e]
  cases inv1 s x <;> rfl
 ·rw [if_neg k1, if_neg k1]
  by_cases k2 : x.kind = 2
  ·rw [if_pos k2, if_pos k2]
   have e : ret1 s x = fit2 p x := by
    unfold ret1 fit2
    by_cases c0 : 0 ≤ x.client
    ·by_cases c8 : x.client < 8
     ·have c7 : x.client ≤ 7 := by omega
      have hc : ((x.client.toNat : Nat) : Int) = x.client := Int.toNat_of_nonneg c0
      by_cases hp : pend p x.client < 0
      ·rw [T.idle x.client.toNat (by omega) (by rw [hc]; exact hp), dT hp]
       simp
      ·obtain ⟨b, o, y, h1, h2, h3, h4, h5⟩ := T.busy x.client.toNat (by omega) (by rw [hc]; omega)
       rw [hc] at h4
       rw [opOf, h1]
       simp only
       rw [h3, h4, dF hp, dT c8, dT c7, dT c0, dF (fun e => by cases e; omega : ¬ some b = some 0)]
       simp only [h5]
       cases decide (x.op = zOp) <;> cases kn4 x.err <;> cases decide (x.value = zBk) <;> cases decide (y.op.kind = 1) <;> cases decide (x.err = 0) <;> rfl
     ·rw [dF c8, dF (by omega : ¬ x.client ≤ 7)]; simp
    ·rw [dF c0]; simp
   rw [← e]
   cases ret1 s x <;> rfl
  ·rw [if_neg k2, if_neg k2]
   by_cases k3 : x.kind = 3
   ·rw [if_pos k3, if_pos k3]
   ·rw [if_neg k3, if_neg k3]
theorem take_kind {s : RdS} {x : HEv} (h : (takeS s x).2 = true) : x.kind = 1 ∧ inv1 s x = true ∨ x.kind = 2 ∧ ret1 s x = true ∨ x.kind = 3 ∧ crash1 x = true := by
 unfold takeS at h
 simp only at h
 by_cases k1 : x.kind = 1
 ·rw [if_pos k1] at h
  cases hi : inv1 s x with
  | true => exact .inl ⟨k1, rfl⟩
  | false => rw [hi] at h; cases h
 ·rw [if_neg k1] at h
  by_cases k2 : x.kind = 2
  ·rw [if_pos k2] at h
   cases hi : ret1 s x with
   | true => exact .inr (.inl ⟨k2, rfl⟩)
   | false => rw [hi] at h; cases h
  ·rw [if_neg k2] at h
   by_cases k3 : x.kind = 3
   ·rw [if_pos k3] at h; exact .inr (.inr ⟨k3, h⟩)
   ·rw [if_neg k3] at h; cases h
theorem inv1_out {s : RdS} {x : HEv} (h : inv1 s x = true) : 0 ≤ x.client ∧ x.client < 8 ∧ s.busy[x.client.toNat]? = some 0 ∧ x.op.data.length ≤ 64 ∧ x.value = zBk ∧ x.err = 0 := by
 simp only [inv1, Bool.and_eq_true, decide_eq_true_eq] at h
 obtain ⟨⟨⟨⟨⟨h1, h2⟩, h3⟩, h4⟩, h5⟩, h6⟩ := h
 exact ⟨h1, h2, h3, h4, h5, h6⟩
theorem ret1_out {s : RdS} {x : HEv} {n : Nat} (hs : s.Ok n) (h : ret1 s x = true) : 0 ≤ x.client ∧ x.client < 8 ∧ x.op = zOp ∧ kn4 x.err = true ∧ ∃ b o, s.busy[x.client.toNat]? = some b ∧ 0 < b ∧ s.all[(b - 1).toNat]? = some o ∧ opOf s x = some o ∧ (x.value = zBk ∨ o.op.kind = 1 ∧ x.err = 0) := by
 simp only [ret1, Bool.and_eq_true, decide_eq_true_eq] at h
 obtain ⟨⟨⟨⟨⟨h1, h2⟩, h3⟩, h4⟩, h5⟩, h6⟩ := h
 obtain ⟨b, hbg⟩ : ∃ b, s.busy[x.client.toNat]? = some b := ⟨_, List.getElem?_eq_getElem (by rw [hs.blen]; omega)⟩
 have hb := hs.busy b (List.mem_of_getElem? hbg)
 have hb0 : b ≠ 0 := by rw [hbg] at h3; simpa using h3
 obtain ⟨o, hog⟩ : ∃ o, s.all[(b - 1).toNat]? = some o := ⟨_, List.getElem?_eq_getElem (by omega)⟩
 have ho : opOf s x = some o := by rw [opOf, hbg]; exact hog
 rw [ho] at h6
 refine ⟨h1, h2, h4, h5, b, o, hbg, by omega, hog, ho, ?_⟩
 simpa [Bool.or_eq_true, Bool.and_eq_true] using h6
theorem take_inv_eq {s : RdS} {x : HEv} (k1 : x.kind = 1) (h : inv1 s x = true) : (takeS s x).1 = ⟨s.busy.set x.client.toNat (s.all.length + 1), s.number.set x.client.toNat ((s.number[x.client.toNat]?.getD 0) + 1), s.era, s.read + 1, s.all ++ [⟨x.client, s.number[x.client.toNat]?.getD 0, s.era, x.op, s.read, -1, zBk, 0⟩]⟩ := by simp [takeS, k1, h]
theorem take_ret_eq {s : RdS} {x : HEv} {b : Int} {o : HOp} (k2 : x.kind = 2) (h : ret1 s x = true) (hb : s.busy[x.client.toNat]? = some b) (ho : opOf s x = some o) : (takeS s x).1 = ⟨s.busy.set x.client.toNat 0, s.number, s.era, s.read + 1, s.all.set (b - 1).toNat { o with returned := s.read, value := x.value, err := x.err }⟩ := by simp [takeS, k2, h, ho, hb]
theorem take_crash_eq {s : RdS} {x : HEv} (k3 : x.kind = 3) : (takeS s x).1 = ⟨zero8, s.number, s.era + 1, s.read + 1, s.all⟩ := by simp [takeS, k3]
theorem get_snoc {α : Type} {p : List α} {x y : α} {k : Nat} (h : p[k]? = some y) : (p ++ [x])[k]? = some y := by
 rw [List.getElem?_append_left (List.getElem?_eq_some_iff.1 h).1]; exact h
theorem Track.next {p : List HEv} {s : RdS} (T : Track p s) {x : HEv} (h : (takeS s x).2 = true) : Track (p ++ [x]) (takeS s x).1 := by
 have hok := T.ok.next x
 have hlen : (p ++ [x]).length = p.length + 1 := by simp
 rcases take_kind h with ⟨k1, hi⟩ | ⟨k2, hi⟩ | ⟨k3, hi⟩
 ·obtain ⟨c0, c8, hb, _, _, _⟩ := inv1_out hi
  have e := take_inv_eq k1 hi
  rw [e] at hok ⊢
  have hps : ∀ d : Int, pend (p ++ [x]) d = if x.client = d then (p.length : Int) else pend p d := fun d => by
   rw [pend_snoc, pstep, if_neg (by omega), if_pos k1]
  refine ⟨by rw [hlen]; exact hok, fun d hd hp => ?_, fun d hd hp => ?_, fun c d hc hd hcd b h1 h2 => ?_⟩
  ·rw [hps] at hp
   by_cases hcd : x.client = d
   ·rw [if_pos hcd] at hp; omega
   ·rw [if_neg hcd] at hp
    rw [List.getElem?_set_ne (by omega)]
    exact T.idle d hd hp
  ·rw [hps] at hp ⊢
   by_cases hcd : x.client = d
   ·rw [if_pos hcd]
    refine ⟨s.all.length + 1, _, x, by rw [show x.client.toNat = d by omega]; exact List.getElem?_set_self (by rw [T.ok.blen]; exact hd), by omega, by
     rw [show ((s.all.length : Int) + 1 - 1).toNat = s.all.length by omega]
     exact List.getElem?_concat_length .., by
     rw [Int.toNat_natCast]
     exact List.getElem?_concat_length .., rfl⟩
   ·rw [if_neg hcd] at hp ⊢
    obtain ⟨b, o, y, g1, g2, g3, g4, g5⟩ := T.busy d hd hp
    exact ⟨b, o, y, by rw [List.getElem?_set_ne (by omega)]; exact g1, g2, get_snoc g3, get_snoc g4, g5⟩
  ·have hbb : ∀ (k : Nat) (b : Int), s.busy[k]? = some b → b ≤ s.all.length := fun k b hk => (T.ok.busy b (List.mem_of_getElem? hk)).2
   by_cases e1 : x.client.toNat = c
   ·subst e1
    rw [List.getElem?_set_self (by rw [T.ok.blen]; exact hc)] at h1
    rw [List.getElem?_set_ne hcd] at h2
    have := hbb _ _ h2
    cases h1
    omega
   ·rw [List.getElem?_set_ne e1] at h1
    by_cases e2 : x.client.toNat = d
    ·subst e2
     rw [List.getElem?_set_self (by rw [T.ok.blen]; exact hd)] at h2
     have := hbb _ _ h1
     cases h2
     omega
    ·rw [List.getElem?_set_ne e2] at h2
     exact T.free c d hc hd hcd b h1 h2
 ·obtain ⟨c0, c8, _, _, b, o, hb, hb0, hog, ho, _⟩ := ret1_out T.ok hi
  have e := take_ret_eq k2 hi hb ho
  rw [e] at hok ⊢
  have hps : ∀ d : Int, pend (p ++ [x]) d = if x.client = d then -1 else pend p d := fun d => by
   rw [pend_snoc, pstep, if_neg (by omega), if_neg (by omega), if_pos k2]
  refine ⟨by rw [hlen]; exact hok, fun d hd hp => ?_, fun d hd hp => ?_, fun c d hc hd hcd b' h1 h2 => ?_⟩
  ·rw [hps] at hp
   by_cases hcd : x.client = d
   ·rw [show x.client.toNat = d by omega]; exact List.getElem?_set_self (by rw [T.ok.blen]; exact hd)
   ·rw [if_neg hcd] at hp
    rw [List.getElem?_set_ne (by omega)]
    exact T.idle d hd hp
  ·rw [hps] at hp ⊢
   by_cases hcd : x.client = d
   ·rw [if_pos hcd] at hp; omega
   ·rw [if_neg hcd] at hp ⊢
    obtain ⟨b', o', y, g1, g2, g3, g4, g5⟩ := T.busy d hd hp
    have hne : b' ≠ b := fun e => by
     subst e
     have := T.free x.client.toNat d (by omega) hd (by omega) _ hb g1
     omega
    exact ⟨b', o', y, by rw [List.getElem?_set_ne (by omega)]; exact g1, g2, by rw [List.getElem?_set_ne (by omega)]; exact g3, get_snoc g4, g5⟩
  ·by_cases e1 : x.client.toNat = c
   ·subst e1
    rw [List.getElem?_set_self (by rw [T.ok.blen]; exact hc)] at h1
    cases h1; rfl
   ·rw [List.getElem?_set_ne e1] at h1
    by_cases e2 : x.client.toNat = d
    ·subst e2
     rw [List.getElem?_set_self (by rw [T.ok.blen]; exact hd)] at h2
     cases h2; rfl
    ·rw [List.getElem?_set_ne e2] at h2
     exact T.free c d hc hd hcd b' h1 h2
 ·have e := take_crash_eq (s := s) k3
  rw [e] at hok ⊢
  have hps : ∀ d : Int, pend (p ++ [x]) d = -1 := fun d => by rw [pend_snoc, pstep, if_pos k3]
  have hz : ∀ b ∈ zero8, b = 0 := by decide
  refine ⟨by rw [hlen]; exact hok, fun d hd _ => ?_, fun d hd hp => by rw [hps] at hp; omega, fun c d _ _ _ b h1 _ => hz b (List.mem_of_getElem? h1)⟩
  obtain ⟨b, hb⟩ : ∃ b, zero8[d]? = some b := ⟨_, List.getElem?_eq_getElem hd⟩
  show zero8[d]? = some 0
  rw [hb, hz b (List.mem_of_getElem? hb)]
end Go.Proofs.YtmojbghcngdkpaaGreatDoor
namespace Go.Proofs.YtmojbghcngdkpaaGreatDoor
open Go.Eng Go.Plain
set_option maxHeartbeats 8000000
set_option maxRecDepth 20000
attribute [local irreducible] WC RegS RegD SeqQ BlkQ ScoQ RegK CutK Sat SatN FnIs LoopQ StepIs OpIs
theorem trimp_is {l p : List UInt8} : FnIs Tryz.prog 137 [.d (strD l), .d (strD p)] [] (.d (strD (Lib.trimPrefix l p))) [] :=
 .of_calls1 rfl ⟨_, Tryz.func137, by kernel_rfl, by kernel_rfl⟩ fun σ w X vs ha hg => by
  rw [ha.two]
  refine (Tryz.strings_TrimPrefix (mkS l) (mkS p) w).mono ?_
  rintro e w' ⟨rfl, rfl⟩
  exact ⟨by rw [mkS_data, mkS_data]; rfl, Go.RowKit.Below.refl _ _⟩
theorem trims_is {l p : List UInt8} (hl : l.length ≤ 9223372036854775807) : FnIs Tryz.prog 136 [.d (strD l), .d (strD p)] [] (.d (strD (Lib.trimSuffix l p))) [] :=
 .of_calls1 rfl ⟨_, Tryz.func136, by kernel_rfl, by kernel_rfl⟩ fun σ w X vs ha hg => by
  rw [ha.two]
  refine (Tryz.strings_TrimSuffix (mkS l) (mkS p) w (by rw [mkS_size]; exact hl)).mono ?_
  rintro e w' ⟨rfl, rfl⟩
  exact ⟨by rw [mkS_data, mkS_data]; rfl, Go.RowKit.Below.refl _ _⟩
theorem trim_pre (p s : List UInt8) : Lib.trimPrefix (p ++ s) p = s := by
 rw [Lib.trimPrefix, Lib.hasPrefix, if_pos (by rw [List.isPrefixOf_iff_prefix]; exact List.prefix_append _ _), List.drop_left]
theorem trim_suf (s q : List UInt8) : Lib.trimSuffix (s ++ q) q = s := by
 rw [Lib.trimSuffix, Lib.hasSuffix, if_pos (by rw [List.isSuffixOf_iff_suffix]; exact List.suffix_append _ _)]
 simp
def sOk : List UInt8 := [111, 107]
def sArg : List UInt8 := [97, 114, 103]
def sNonce : List UInt8 := [110, 111, 110, 99, 101]
def sInteg : List UInt8 := [105, 110, 116, 101, 103, 114, 105, 116, 121]
def wordsL : List (Int × AV) := [(0, .d (strD sOk)), (1, .d (strD sArg)), (8, .d (strD sNonce)), (9, .d (strD sInteg))]
theorem key_err : KeyTy Tryz.prog 27 i6 1 := keyTy_int Tryz.underlying27 .i64
theorem words_is : FnIs Tryz.prog 111 [] [] (.mapr 64) [(64, .mo (mapC i6 wordsL))] := by
 refine fnIs_of tab_ok Tryz.func111 rfl rfl rfl ?_;refine sR ?_;refine rC ?_;refine nR ?_;refine reg_new (make_map) rfl ?_;refine reg_do rfl (insert_new (κ := Int) (enc := i6) (l := wordsL.take 0) (k := 0) (v := .d (strD sOk)) key_err Tryz.underlying173 rfl rfl rfl rfl rfl) rfl rfl ?_
 refine reg_do rfl (insert_new (κ := Int) (enc := i6) (l := wordsL.take 1) (k := 1) (v := .d (strD sArg)) key_err Tryz.underlying173 rfl rfl rfl rfl rfl) rfl rfl ?_
 refine reg_do rfl (insert_new (κ := Int) (enc := i6) (l := wordsL.take 2) (k := 8) (v := .d (strD sNonce)) key_err Tryz.underlying173 rfl rfl rfl rfl rfl) rfl rfl ?_
 refine reg_do rfl (insert_new (κ := Int) (enc := i6) (l := wordsL.take 3) (k := 9) (v := .d (strD sInteg)) key_err Tryz.underlying173 rfl rfl rfl rfl rfl) rfl rfl ?_
 iterate 2 refine rC ?_
 refine nS ?_;refine wc_ret ?_
 exact ⟨trivial, [(64, some _)], .of rfl rfl rfl rfl rfl ⟨⟨_, rfl, AVLe.of_eq rfl⟩, rfl, trivial⟩ ⟨⟨rfl, rfl, _, rfl, .refl _⟩, trivial⟩⟩
theorem hhex_is (l : List UInt8) (hl32 : l.length = 32) : FnIs Tryz.prog 110 [.d (encBk l)] [] (.d (strD (hexP l))) [] := by
 have hne : l ≠ [] := fun e => by rw [e] at hl32; cases hl32
 have hL : l.length ≤ 524288 := by omega
 have hbl : (byI l).length = l.length := byI_len l
 refine fnIs_of tab_ok Tryz.func110 rfl rfl rfl ?_;refine sR ?_;refine rN ?_;refine rC ?_;refine nR ?_;refine rN ?_;refine nQ ?_;refine sR ?_;refine rQ iM ?_;refine rC ?_
 refine nS ?_;refine wc_block ?_
 refine wc_inv (fun i : Nat => ⟨[(7, .int .i64 i), (6, .d (encBk l)), (3, .ptr 65 [])], [(65, some (bldRow (Nat.beq i 0) 65 66 (2 * i))), (66, some (rowT ((l.take i).flatMap hexB)))], 72, Tryz.f110.ntmps, 64⟩) (fun i => i ≤ l.length) (fun i => l.length - i) 0 [(65, some _), (66, none)] (Nat.zero_le _)
  (.of rfl rfl rfl rfl rfl ⟨⟨_, rfl, .refl _⟩, rfl, ⟨_, rfl, .refl _⟩, rfl, ⟨_, rfl, .refl _⟩, rfl, trivial⟩ ⟨⟨rfl, rfl, _, rfl, RowLe.split2⟩, ⟨rfl, rfl, rfl⟩, trivial⟩) ?_
 intro i hi
 refine wc_of ?_;refine sR ?_;refine rC ?_;refine nQ ?_
 refine wc_cond rfl (fun h3 => ?_) (fun h3 => ?_)
 ·have hlt : i < l.length := by have := of_decide_eq_true h3; omega
  obtain ⟨b, hb⟩ : ∃ b, l[i]? = some b := ⟨_, List.getElem?_eq_getElem hlt⟩
  have hb' : (byI l)[((i : Int)).toNat]? = some (b.toNat : Int) := by rw [Int.toNat_natCast]; exact byI_get hb
  have hb8 : b.toNat < 256 := b.toNat_lt
  have hw16 : IntKind.u8.wrap ((b.toNat / 16 : Nat) : Int) = ((b.toNat / 16 : Nat) : Int) := wrap_u8n (by omega)
  have hd1 := hexD_get (n := b.toNat / 16) (by omega)
  have hd2 := hexD_get (n := b.toNat % 16) (by omega)
  have hpl : ((l.take i).flatMap hexB).length = 2 * i := by rw [hexB_len, List.length_take, Nat.min_eq_left hi]
  have hp1 : 2 * i + 1 ≤ 1048576 := by omega
  have hpl2 : ((l.take i).flatMap hexB ++ [hexC (b.toNat / 16)]).length = 2 * i + 1 := by rw [List.length_append, hpl]; rfl
  have hp2 : 2 * i + 1 + 1 ≤ 1048576 := by omega
  have hgo := hex_take hb
  refine kS ?_;refine wc_seq ?_;refine wc_block ?_;refine sR ?_;refine rQ (index_vec tab_ok rfl rfl rfl rfl rfl (by omega) (by omega) ⟨rfl, _, hb', rfl⟩ rfl) ?_;refine rC ?_
  refine nR ?_;refine rC ?_;refine rQ (quo_nat (a := b.toNat) (b := 16) tab_ok rfl rfl rfl (by decide) hw16) ?_;refine rQ (index_s (l := hexD) (m := b.toNat / 16) tab_ok rfl rfl rfl hd1) ?_
  refine reg_do rfl (call_h [(0, some 65), (1, some 66)] (writebyte_is (Nat.beq i 0) ((l.take i).flatMap hexB) (hexC (b.toNat / 16)) (2 * i) hpl hp1) rfl rfl rfl (arg_ptr rfl rfl (arg_e arg_nil)) ⟨⟨rfl, (by cases Nat.beq i 0 <;> rfl), _, _, rfl, rfl, (by cases Nat.beq i 0 <;> exact .refl _)⟩, ⟨rfl, rfl, _, _, rfl, rfl, .refl _⟩, trivial⟩ rfl rfl (.inl rfl) rfl rfl) rfl rfl ?_
  refine nS ?_;refine wc_region ?_;refine rC ?_;refine rQ (rem_nat (a := b.toNat) (b := 16) tab_ok rfl rfl rfl (by decide)) ?_;refine rQ (index_s (l := hexD) (m := b.toNat % 16) tab_ok rfl rfl rfl hd2) ?_
  refine reg_do rfl (call_h [(0, some 65), (1, some _)] (writebyte_is false ((l.take i).flatMap hexB ++ [hexC (b.toNat / 16)]) (hexC (b.toNat % 16)) (2 * i + 1) hpl2 hp2) rfl rfl rfl (arg_ptr rfl rfl (arg_e arg_nil)) ⟨⟨rfl, rfl, _, _, rfl, rfl, .refl _⟩, ⟨rfl, rfl, _, _, rfl, rfl, .refl _⟩, trivial⟩ rfl rfl (.inl rfl) rfl rfl) rfl rfl ?_
  refine reg_nil ?_;refine blk_n ?_;refine seq_n ?_;refine wc_region ?_;refine rQ iD ?_;refine rC ?_;refine reg_nil ?_
  exact loop_n (i + 1) [(66, some _)] hlt (by omega) (.of rfl rfl rfl rfl rfl ⟨⟨_, rfl, .refl _⟩, rfl, ⟨_, rfl, .refl _⟩, rfl, ⟨_, rfl, .refl _⟩, rfl, trivial⟩ ⟨⟨rfl, rfl, _, rfl, .refl _⟩, ⟨rfl, rfl, _, rfl, RowLe.of_eq (congrArg rowT hgo)⟩, trivial⟩)
 ·have he : i = l.length := by have := of_decide_eq_false h3; omega
  subst he
  have hnn : l.flatMap hexB ≠ [] := fun e => by have := hexB_len l; rw [e] at this; simp at this; omega
  have hp4 : 2 * l.length ≤ 1048576 := by omega
  have hbz : Nat.beq l.length 0 = false := by
   cases hz : Nat.beq l.length 0 with
   | false => rfl
   | true => have := Nat.eq_of_beq_eq_true hz; omega
  rw [hbz, List.take_length]
  refine wc_exit ?_;refine seq_x ?_;refine loop_x ?_;refine blk_x ?_;refine seq_n ?_;refine sR ?_;refine reg_new2 (call_h [(0, some 65), (1, some 66)] (bstring_is (l.flatMap hexB) (2 * l.length) (hexB_len l) hnn hp4) rfl rfl rfl (arg_ptr rfl rfl arg_nil) ⟨⟨rfl, rfl, _, _, rfl, rfl, .refl _⟩, ⟨rfl, rfl, _, _, rfl, rfl, .refl _⟩, trivial⟩ rfl rfl (.inl rfl) rfl rfl) rfl ?_
  refine rC ?_;refine nS ?_;refine wc_ret ?_
  rw [show hexP l = l.flatMap hexB from if_neg hne]
  exact ⟨trivial, [], lf⟩
theorem chk_one {o : POp} (hd : o.data.length ≤ 64) : chkP [[o]] = 0 := chkP_ok.2 ⟨by simp, fun p hp => by
 rw [List.mem_singleton.1 hp]
 simp [badP]; try omega⟩
theorem text_one (o : POp) : textP [[o]] = (sClient ++ [10]) ++ (lineP o ++ [10]) := by simp [textP, opsT]
theorem hop_is (o : POp) (hok : o.Ok) (hd : o.data.length ≤ 64) : FnIs Tryz.prog 109 [.d (encPOp o)] [] (.d (strD (lineP o))) [] := by
 have h0 := chk_one hd
 have ht := text_is [[o]] (bd_chk h0) (fun p hp q hq => by rw [List.mem_singleton.1 hp] at hq; rw [List.mem_singleton.1 hq]; exact hok)
 rw [h0, if_pos rfl, text_one] at ht
 have hp := trimp_is (l := (sClient ++ [10]) ++ (lineP o ++ [10])) (p := sClient ++ [10])
 rw [trim_pre] at hp
 have hs := trims_is (l := lineP o ++ [10]) (p := [10]) (by have := line_len hok; simp; omega)
 rw [trim_suf] at hs
 refine fnIs_of tab_ok Tryz.func109 rfl rfl rfl ?_;refine sR ?_;refine rN ?_;refine rC ?_;refine nR ?_;refine rQ iM ?_;refine rQ (StepIs.frozen (build_slice (s := 3) tab_ok rfl rfl rfl rfl rfl rfl rfl rfl) (Frz.lits1 (enc := encPOp) o rfl rfl)) ?_
 refine rQ (StepIs.frozen (build_slice (s := 1) tab_ok rfl rfl rfl rfl rfl rfl rfl rfl) (Frz.lits1 (enc := encP) [o] rfl rfl)) ?_;refine rQ (call_r ht rfl rfl (arg_e arg_nil) (.inl rfl) (fun _ => rfl)) ?_
 iterate 5 refine rC ?_
 refine nR ?_;refine rC ?_;refine rQ (call_r hp rfl rfl (arg_e (arg_e arg_nil)) (.inl rfl) (fun _ => rfl)) ?_;refine rQ (call_r hs rfl rfl (arg_e (arg_e arg_nil)) (.inl rfl) (fun _ => rfl)) ?_
 refine rC ?_;refine nS ?_;refine wc_ret ?_
 exact ⟨trivial, [], lf⟩
def sCrash : List UInt8 := [99, 114, 97, 115, 104]
def sInvoke : List UInt8 := [105, 110, 118, 111, 107, 101]
def sReturn : List UInt8 := [114, 101, 116, 117, 114, 110]
def wordE (e : Int) : List UInt8 := if e = 0 then sOk else if e = 1 then sArg else if e = 8 then sNonce else if e = 9 then sInteg else []
def lineE (x : HEv) : List UInt8 := if x.kind = 3 then sCrash else if x.kind = 1 then (sInvoke ++ [32]) ++ Lib.itoa x.client ++ [32] ++ lineP x.op else if x.value = zBk then (sReturn ++ [32]) ++ Lib.itoa x.client ++ [32] ++ wordE x.err else (sReturn ++ [32]) ++ Lib.itoa x.client ++ [32, 111, 107, 32] ++ hexP x.value
theorem zero_str : ZeroIs Tryz.prog 9 (strD []) := zero_of (by kernel_rfl) rfl
theorem find_word (e : Int) : findC e wordsL 0 = (if e = 0 then some (0, .d (strD sOk)) else if e = 1 then some (1, .d (strD sArg)) else if e = 8 then some (2, .d (strD sNonce)) else if e = 9 then some (3, .d (strD sInteg)) else none) := by
 simp only [wordsL, findC]
theorem hline_is (x : HEv) (hok : x.Ok) (hd : x.op.data.length ≤ 64) : FnIs Tryz.prog 62 [.d (encEv x)] [] (.d (strD (lineE x))) [] := by
 have hil := itoa_len hok.client.1 hok.client.2
 have hll := line_len hok.op
 have hhl := hexP_len x.value
 rw [hok.value] at hhl
 refine fnIs_of tab_ok Tryz.func62 rfl rfl rfl ?_
 unfold lineE
 refine sR ?_;refine rN ?_;refine rC ?_;refine nR ?_;refine rC ?_;refine rQ iB ?_;refine rQ (call_r (itoa_is hok.client.1 hok.client.2) rfl rfl (arg_e arg_nil) (.inl rfl) (fun _ => rfl)) ?_
 refine rC ?_;refine nQ ?_;refine wc_block ?_;refine sR ?_;refine rC ?_;refine rQ iB ?_;iterate 2 refine rC ?_
 refine nS ?_
 by_cases k3 : x.kind = 3
 ·have d3 : decide (x.kind = 3) = true := dT k3
  rw [if_pos k3]
  refine wT ?_;refine sR ?_;refine rC ?_;refine nS ?_;refine wc_ret ?_;refine blk_r ?_;refine seq_r ?_
  exact ⟨trivial, [], lf⟩
 ·have d3 : decide (x.kind = 3) = false := dF k3
  rw [if_neg k3]
  refine wF ?_;refine sR ?_;refine rC ?_;refine rQ iB ?_;iterate 2 refine rC ?_
  refine nS ?_
  by_cases k1 : x.kind = 1
  ·have d1 : decide (x.kind = 1) = true := dT k1
   rw [if_pos k1]
   refine wT ?_;refine sR ?_;refine rC ?_
   refine rQ (add_str (a := sInvoke ++ [32]) (b := Lib.itoa x.client) rfl rfl (by simp [sInvoke]; omega) rfl) ?_
   refine rQ (add_str (a := sInvoke ++ [32] ++ Lib.itoa x.client) (b := [32]) rfl rfl (by simp [sInvoke]; omega) rfl) ?_
   refine rC ?_;refine rQ iB ?_;refine rQ (call_r (hop_is x.op hok.op hd) rfl rfl (arg_e arg_nil) (.inl rfl) (fun _ => rfl)) ?_
   refine rQ (add_str (a := sInvoke ++ [32] ++ Lib.itoa x.client ++ [32]) (b := lineP x.op) rfl rfl (by simp [sInvoke]; omega) rfl) ?_
   refine rC ?_;refine nS ?_;refine wc_ret ?_;refine blk_r ?_;refine seq_r ?_
   exact ⟨trivial, [], lf⟩
  ·have d1 : decide (x.kind = 1) = false := dF k1
   rw [if_neg k1]
   refine wF ?_;refine sR ?_;refine rC ?_;refine rQ iB ?_;refine rQ (build_array tab_ok rfl rfl rfl) ?_;refine rQ (neq_data rfl rfl rfl rfl (by kernel_rfl) (by decide) (block_eq x.value zBk)) ?_
   refine rC ?_;refine nS ?_
   by_cases hv : x.value = zBk
   ·have v0 : (!decide (x.value = zBk)) = false := by rw [dT hv]; rfl
    rw [if_pos hv]
    have hf := find_word x.err
    unfold wordE
    refine wF ?_;refine wc_skip ?_;refine blk_n ?_;refine seq_n ?_;refine wc_seq ?_;refine wc_draw (by kernel_rfl) ?_;refine dC [3] [] ?_
    refine dQ [34] [] (add_str (a := sReturn ++ [32]) (b := Lib.itoa x.client) rfl rfl (by simp [sReturn]; omega) rfl) ?_
    refine dQ [35] [] (add_str (a := sReturn ++ [32] ++ Lib.itoa x.client) (b := [32]) rfl rfl (by simp [sReturn]; omega) rfl) ?_
    refine dreg_w [] [] rfl (call_h [] words_is rfl rfl rfl arg_nil trivial rfl rfl (.inl rfl) rfl rfl) ?_;refine dC [1] [] ?_;refine dQ [38] [64] iB ?_
    by_cases h0 : x.err = 0
    ·rw [if_pos h0] at hf ⊢
     obtain ⟨W, hW⟩ : ∃ W, W = sOk := ⟨_, rfl⟩
     have hWl : W.length ≤ 20 := by rw [hW]; decide
     rw [← hW] at hf ⊢
     refine dQ [37, 39] [240] (lookup_some (κ := Int) (enc := i6) (l := wordsL) (k := x.err) key_err Tryz.underlying173 rfl rfl rfl hf) ?_
     refine dQ [36, 40] [] (add_str (a := sReturn ++ [32] ++ Lib.itoa x.client ++ [32]) (b := W) rfl rfl (by simp [sReturn]; omega) rfl) ?_
     refine dC [41] [] ?_;refine dreg_end (by kernel_rfl) ?_;refine seq_n ?_;refine wc_ret ?_
     exact ⟨trivial, [], lf⟩
    ·rw [if_neg h0] at hf ⊢
     skip
     by_cases h1 : x.err = 1
     ·rw [if_pos h1] at hf ⊢
      obtain ⟨W, hW⟩ : ∃ W, W = sArg := ⟨_, rfl⟩
      have hWl : W.length ≤ 20 := by rw [hW]; decide
      rw [← hW] at hf ⊢
      refine dQ [37, 39] [240] (lookup_some (κ := Int) (enc := i6) (l := wordsL) (k := x.err) key_err Tryz.underlying173 rfl rfl rfl hf) ?_
      refine dQ [36, 40] [] (add_str (a := sReturn ++ [32] ++ Lib.itoa x.client ++ [32]) (b := W) rfl rfl (by simp [sReturn]; omega) rfl) ?_
      refine dC [41] [] ?_;refine dreg_end (by kernel_rfl) ?_;refine seq_n ?_;refine wc_ret ?_
      exact ⟨trivial, [], lf⟩
     ·rw [if_neg h1] at hf ⊢
      skip
      by_cases h8 : x.err = 8
      ·rw [if_pos h8] at hf ⊢
       obtain ⟨W, hW⟩ : ∃ W, W = sNonce := ⟨_, rfl⟩
       have hWl : W.length ≤ 20 := by rw [hW]; decide
       rw [← hW] at hf ⊢
       refine dQ [37, 39] [240] (lookup_some (κ := Int) (enc := i6) (l := wordsL) (k := x.err) key_err Tryz.underlying173 rfl rfl rfl hf) ?_
       refine dQ [36, 40] [] (add_str (a := sReturn ++ [32] ++ Lib.itoa x.client ++ [32]) (b := W) rfl rfl (by simp [sReturn]; omega) rfl) ?_
       refine dC [41] [] ?_;refine dreg_end (by kernel_rfl) ?_;refine seq_n ?_;refine wc_ret ?_
       exact ⟨trivial, [], lf⟩
      ·rw [if_neg h8] at hf ⊢
       skip
       by_cases h9 : x.err = 9
       ·rw [if_pos h9] at hf ⊢
        obtain ⟨W, hW⟩ : ∃ W, W = sInteg := ⟨_, rfl⟩
        have hWl : W.length ≤ 20 := by rw [hW]; decide
        rw [← hW] at hf ⊢
        refine dQ [37, 39] [240] (lookup_some (κ := Int) (enc := i6) (l := wordsL) (k := x.err) key_err Tryz.underlying173 rfl rfl rfl hf) ?_
        refine dQ [36, 40] [] (add_str (a := sReturn ++ [32] ++ Lib.itoa x.client ++ [32]) (b := W) rfl rfl (by simp [sReturn]; omega) rfl) ?_
        refine dC [41] [] ?_;refine dreg_end (by kernel_rfl) ?_;refine seq_n ?_;refine wc_ret ?_
        exact ⟨trivial, [], lf⟩
       ·rw [if_neg h9] at hf ⊢
        refine dQ [37, 39] [240] (lookup_none (κ := Int) (enc := i6) (l := wordsL) (k := x.err) key_err Tryz.underlying173 zero_str rfl rfl rfl hf) ?_
        refine dQ [36, 40] [] (add_str (a := sReturn ++ [32] ++ Lib.itoa x.client ++ [32]) (b := []) rfl rfl (by simp [sReturn]; omega) rfl) ?_
        refine dC [41] [] ?_;refine dreg_end (by kernel_rfl) ?_;refine seq_n ?_;refine wc_ret ?_
        exact ⟨trivial, [], lf⟩
   ·have v0 : (!decide (x.value = zBk)) = true := by rw [dF hv]; rfl
    rw [if_neg hv]
    refine wT ?_;refine sR ?_;refine rC ?_
    refine rQ (add_str (a := sReturn ++ [32]) (b := Lib.itoa x.client) rfl rfl (by simp [sReturn]; omega) rfl) ?_
    refine rQ (add_str (a := sReturn ++ [32] ++ Lib.itoa x.client) (b := [32, 111, 107, 32]) rfl rfl (by simp [sReturn]; omega) rfl) ?_
    refine rC ?_;refine rQ iB ?_;refine rQ (call_r (hhex_is x.value hok.value) rfl rfl (arg_e arg_nil) (.inl rfl) (fun _ => rfl)) ?_
    refine rQ (add_str (a := sReturn ++ [32] ++ Lib.itoa x.client ++ [32, 111, 107, 32]) (b := hexP x.value) rfl rfl (by simp [sReturn]; omega) rfl) ?_
    refine rC ?_;refine nS ?_;refine wc_ret ?_;refine blk_r ?_;refine seq_r ?_
    exact ⟨trivial, [], lf⟩
end Go.Proofs.YtmojbghcngdkpaaGreatDoor
namespace Go.Proofs.YtmojbghcngdkpaaGreatDoor
open Go.Eng Go.Plain
def WfE (x : HEv) : Prop := -9223372036854775808 ≤ x.client ∧ x.client ≤ 9223372036854775807 ∧
  (x.kind = 3 ∧ x.client = 0 ∧ x.op = zOp ∧ x.value = zBk ∧ x.err = 0 ∨
   x.kind = 1 ∧ x.value = zBk ∧ x.err = 0 ∧ x.op.Ok ∧ x.op.data.length ≤ 64 ∨
   x.kind = 2 ∧ x.op = zOp ∧ kn4 x.err = true ∧ x.value.length = 32 ∧ (x.value ≠ zBk → x.err = 0))
def crashE : HEv := ⟨3, 0, zOp, zBk, 0⟩
theorem crashE_wf : WfE crashE := ⟨by decide, by decide, .inl ⟨rfl, rfl, rfl, rfl, rfl⟩⟩
theorem atoi_range {l : List UInt8} (h : atoiOk l = true) : -9223372036854775808 ≤ atoiV l ∧ atoiV l ≤ 9223372036854775807 := by
 unfold atoiOk at h
 unfold atoiV
 cases e : Lib.atoiAll l with
 | ok n => simp only; exact Lib.atoiAll_bounds e
 | _ => rw [e] at h; cases h
def keyOf (w : List UInt8) : Option Int := if w = sOk then some 0 else if w = sArg then some 1 else if w = sNonce then some 8 else if w = sInteg then some 9 else none
def blockP (s : List UInt8) : Option (List UInt8) := if s.length = 64 then pairsO s else none
def finE (s : List UInt8) (b : Bool) (x : HEv) : Option HEv := if b = true ∧ lineE x = s then some x else none
def evP (s : List UInt8) : Option HEv :=
 if s = sCrash then some crashE
 else if (cutA s 32).1 = sInvoke then
  match parseP (sClient ++ 10 :: ((cutA (cutA s 32).2.1 32).2.1 ++ [10])) [] 1 with
  | ([[o]], _, e) => if e = 0 then finE s (atoiOk (cutA (cutA s 32).2.1 32).1) ⟨1, atoiV (cutA (cutA s 32).2.1 32).1, o, zBk, 0⟩ else none
  | _ => none
 else if (cutA s 32).1 = sReturn then
  match keyOf (cutA (cutA (cutA s 32).2.1 32).2.1 32).1 with
  | none => none
  | some k => if (cutA (cutA (cutA s 32).2.1 32).2.1 32).2.2 = true then
    match blockP (cutA (cutA (cutA s 32).2.1 32).2.1 32).2.1 with
    | none => none
    | some v => finE s (atoiOk (cutA (cutA s 32).2.1 32).1) ⟨2, atoiV (cutA (cutA s 32).2.1 32).1, zOp, v, k⟩
   else finE s (atoiOk (cutA (cutA s 32).2.1 32).1) ⟨2, atoiV (cutA (cutA s 32).2.1 32).1, zOp, zBk, k⟩
 else none
theorem cutA_is {c : UInt8} {p : List UInt8} (q : List UInt8) (h : c ∉ p) : cutA (p ++ c :: q) c = (p, q, true) := by
 unfold cutA; rw [cutL_is q h]
theorem cutA_no {c : UInt8} {p : List UInt8} (h : c ∉ p) : cutA p c = (p, [], false) := by
 unfold cutA
 cases e : cutL p c with
 | none => rfl
 | some pq =>
  obtain ⟨p', q⟩ := pq
  have := (cutL_some e).1
  exact absurd (by rw [this]; simp) h
theorem itoa_no32 (n : Int) : (32 : UInt8) ∉ Lib.itoa n := fun h => (itoa_mem h).2 rfl
theorem keyOf_some {w : List UInt8} {k : Int} (h : keyOf w = some k) : kn4 k = true ∧ w = wordE k := by
 unfold keyOf at h
 by_cases h0 : w = sOk
 ·rw [if_pos h0] at h; cases h; exact ⟨rfl, h0⟩
 ·rw [if_neg h0] at h
  by_cases h1 : w = sArg
  ·rw [if_pos h1] at h; cases h; exact ⟨rfl, h1⟩
  ·rw [if_neg h1] at h
   by_cases h2 : w = sNonce
   ·rw [if_pos h2] at h; cases h; exact ⟨rfl, h2⟩
   ·rw [if_neg h2] at h
    by_cases h3 : w = sInteg
    ·rw [if_pos h3] at h; cases h; exact ⟨rfl, h3⟩
    ·rw [if_neg h3] at h; cases h
theorem kn4_out {e : Int} (h : kn4 e = true) : e = 0 ∨ e = 1 ∨ e = 8 ∨ e = 9 := by
 simp only [kn4, Bool.or_eq_true, decide_eq_true_eq] at h
 omega
theorem keyOf_word {e : Int} (h : kn4 e = true) : keyOf (wordE e) = some e := by
 rcases kn4_out h with rfl | rfl | rfl | rfl <;> decide
theorem word_no32 {e : Int} (h : kn4 e = true) : (32 : UInt8) ∉ wordE e := by
 rcases kn4_out h with rfl | rfl | rfl | rfl <;> decide
theorem hexP32 {v : List UInt8} (h : v.length = 32) : hexP v = v.flatMap hexB ∧ (hexP v).length = 64 := by
 have hne : v ≠ [] := fun e => by rw [e] at h; cases h
 have e : hexP v = v.flatMap hexB := by rw [hexP, if_neg hne]
 exact ⟨e, by rw [e, hexB_len, h]⟩
theorem block_hex {v : List UInt8} (h : v.length = 32) : blockP (hexP v) = some v := by
 obtain ⟨e, hl⟩ := hexP32 h
 rw [blockP, if_pos hl, e, pairs_hex]
theorem block_len {s v : List UInt8} (h : blockP s = some v) : v.length = 32 := by
 unfold blockP at h
 split at h
 ·have := pairs_len s v h; omega
 ·cases h
theorem line_inv (x : HEv) (h : x.kind = 1) : lineE x = sInvoke ++ 32 :: (Lib.itoa x.client ++ 32 :: lineP x.op) := by
 rw [lineE, if_neg (by omega), if_pos h]; simp
theorem line_ret0 (x : HEv) (h : x.kind = 2) (hv : x.value = zBk) : lineE x = sReturn ++ 32 :: (Lib.itoa x.client ++ 32 :: wordE x.err) := by
 rw [lineE, if_neg (by omega), if_neg (by omega), if_pos hv]; simp
theorem line_ret1 (x : HEv) (h : x.kind = 2) (hv : x.value ≠ zBk) : lineE x = sReturn ++ 32 :: (Lib.itoa x.client ++ 32 :: (sOk ++ 32 :: hexP x.value)) := by
 rw [lineE, if_neg (by omega), if_neg (by omega), if_neg hv]; simp [sOk]
theorem parse_line1 {o : POp} (ho : o.Ok) (hd : o.data.length ≤ 64) : parseP (sClient ++ 10 :: (lineP o ++ [10])) [] 1 = ([[o]], 0, 0) := by
 have := parse_back (l := [[o]]) (fun p hp q hq => by simp at hp; subst hp; simp at hq; subst hq; exact ho) (chk_one hd)
 rwa [text_one, show sClient ++ [10] ++ (lineP o ++ [10]) = sClient ++ 10 :: (lineP o ++ [10]) by simp] at this
theorem parse_line2 {o : POp} {t : List UInt8} {j : Nat} (h : parseP (sClient ++ 10 :: (t ++ [10])) [] 1 = ([[o]], j, 0)) : o.Ok ∧ o.data.length ≤ 64 ∧ lineP o = t := by
 obtain ⟨_, h2, h3, h4⟩ := parse_out _ _ [] [[o]] 1 j (Nat.le_refl _) (by decide) (fun p hp => by cases hp) h
 have ho : o.Ok := h4 [o] (by simp) o (by simp)
 refine ⟨ho, ?_, ?_⟩
 ·have := (chkP_ok.1 h3).2 [o] (by simp)
  simpa [badP] using this
 ·rw [text_one] at h2
  simpa [textP] using h2
theorem fin_some {s : List UInt8} {b : Bool} {x y : HEv} (h : finE s b x = some y) : b = true ∧ lineE x = s ∧ x = y := by
 unfold finE at h
 split at h
 ·rename_i hc
  cases h
  exact ⟨hc.1, hc.2, rfl⟩
 ·cases h
theorem evP_some {s : List UInt8} {x : HEv} (h : evP s = some x) : WfE x ∧ lineE x = s := by
 unfold evP at h
 by_cases hc : s = sCrash
 ·rw [if_pos hc] at h; cases h
  exact ⟨crashE_wf, hc.symm⟩
 rw [if_neg hc] at h
 by_cases hi : (cutA s 32).1 = sInvoke
 ·rw [if_pos hi] at h
  split at h
  ·rename_i o j e hp
   split at h
   ·rename_i he
    subst he
    obtain ⟨h1, h2, h3⟩ := parse_line2 hp
    obtain ⟨g1, g2, rfl⟩ := fin_some h
    obtain ⟨r1, r2⟩ := atoi_range g1
    exact ⟨⟨r1, r2, .inr (.inl ⟨rfl, rfl, rfl, h1, h2⟩)⟩, g2⟩
   ·cases h
  ·cases h
 rw [if_neg hi] at h
 by_cases hr : (cutA s 32).1 = sReturn
 ·rw [if_pos hr] at h
  split at h
  ·cases h
  ·rename_i k hk
   obtain ⟨hk1, hk2⟩ := keyOf_some hk
   split at h
   ·rename_i hm
    split at h
    ·cases h
    ·rename_i v hv
     obtain ⟨g1, g2, rfl⟩ := fin_some h
     obtain ⟨r1, r2⟩ := atoi_range g1
     refine ⟨⟨r1, r2, .inr (.inr ⟨rfl, rfl, hk1, block_len hv, fun hz => ?_⟩)⟩, g2⟩
     rw [line_ret1 _ rfl hz] at g2
     rw [← g2, cutA_is _ (by decide)] at hk2
     simp only at hk2
     rw [cutA_is _ (itoa_no32 _)] at hk2
     simp only at hk2
     rw [cutA_is _ (by decide)] at hk2
     simp only at hk2
     rcases kn4_out hk1 with rfl | rfl | rfl | rfl
     ·rfl
     ·exact absurd hk2 (by decide)
     ·exact absurd hk2 (by decide)
     ·exact absurd hk2 (by decide)
   ·obtain ⟨g1, g2, rfl⟩ := fin_some h
    obtain ⟨r1, r2⟩ := atoi_range g1
    exact ⟨⟨r1, r2, .inr (.inr ⟨rfl, rfl, hk1, rfl, fun hz => absurd rfl hz⟩)⟩, g2⟩
 ·rw [if_neg hr] at h; cases h
theorem atoi_back {n : Int} (h0 : -9223372036854775808 ≤ n) (h1 : n ≤ 9223372036854775807) : atoiOk (Lib.itoa n) = true ∧ atoiV (Lib.itoa n) = n := by
 unfold atoiOk atoiV; rw [atoi_itoa h0 h1]; exact ⟨rfl, rfl⟩
theorem evP_line {x : HEv} (h : WfE x) : evP (lineE x) = some x := by
 obtain ⟨kind, client, op, value, err⟩ := x
 obtain ⟨r1, r2, h⟩ := h
 obtain ⟨a1, a2⟩ := atoi_back r1 r2
 simp only at r1 r2 a1 a2
 rcases h with ⟨rfl, rfl, rfl, rfl, rfl⟩ | ⟨rfl, rfl, rfl, h4, h5⟩ | ⟨rfl, rfl, h3, h4, h5⟩
 ·rfl
 ·have hl := line_inv ⟨1, client, op, zBk, 0⟩ rfl
  have hf : finE (lineE ⟨1, client, op, zBk, 0⟩) true ⟨1, client, op, zBk, 0⟩ = some ⟨1, client, op, zBk, 0⟩ := if_pos ⟨rfl, rfl⟩
  have c1 : cutA (lineE ⟨1, client, op, zBk, 0⟩) 32 = (sInvoke, Lib.itoa client ++ 32 :: lineP op, true) := by rw [hl]; exact cutA_is _ (by decide)
  have hne : lineE ⟨1, client, op, zBk, 0⟩ ≠ sCrash := fun e => by rw [hl] at e; simp [sInvoke, sCrash] at e
  unfold evP
  rw [if_neg hne, c1]
  simp only
  rw [if_pos trivial, cutA_is _ (itoa_no32 _)]
  simp only
  rw [parse_line1 h4 h5, a1, a2]
  exact hf
 ·by_cases hz : value = zBk
  ·subst hz
   have hl := line_ret0 ⟨2, client, zOp, zBk, err⟩ rfl rfl
   have hf : finE (lineE ⟨2, client, zOp, zBk, err⟩) true ⟨2, client, zOp, zBk, err⟩ = some ⟨2, client, zOp, zBk, err⟩ := if_pos ⟨rfl, rfl⟩
   have c1 : cutA (lineE ⟨2, client, zOp, zBk, err⟩) 32 = (sReturn, Lib.itoa client ++ 32 :: wordE err, true) := by rw [hl]; exact cutA_is _ (by decide)
   have hne : lineE ⟨2, client, zOp, zBk, err⟩ ≠ sCrash := fun e => by rw [hl] at e; simp [sReturn, sCrash] at e
   unfold evP
   rw [if_neg hne, c1]
   simp only
   rw [if_neg (by decide), if_pos trivial, cutA_is _ (itoa_no32 _)]
   simp only
   rw [cutA_no (word_no32 h3)]
   simp only
   rw [keyOf_word h3, a1, a2]
   exact hf
  ·have he : err = 0 := h5 hz
   subst he
   have hl := line_ret1 ⟨2, client, zOp, value, 0⟩ rfl hz
   have hf : finE (lineE ⟨2, client, zOp, value, 0⟩) true ⟨2, client, zOp, value, 0⟩ = some ⟨2, client, zOp, value, 0⟩ := if_pos ⟨rfl, rfl⟩
   have c1 : cutA (lineE ⟨2, client, zOp, value, 0⟩) 32 = (sReturn, Lib.itoa client ++ 32 :: (sOk ++ 32 :: hexP value), true) := by rw [hl]; exact cutA_is _ (by decide)
   have hne : lineE ⟨2, client, zOp, value, 0⟩ ≠ sCrash := fun e => by rw [hl] at e; simp [sReturn, sCrash] at e
   unfold evP
   rw [if_neg hne, c1]
   simp only
   rw [if_neg (by decide), if_pos trivial, cutA_is _ (itoa_no32 _)]
   simp only
   rw [cutA_is _ (by decide)]
   simp only
   rw [show keyOf sOk = some 0 by decide]
   simp only
   rw [if_pos trivial, block_hex h4]
   simp only
   rw [a1, a2]
   exact hf
def rword (e : Int) : List UInt8 := if e = 1 then sArg else if e = 8 then sNonce else if e = 9 then sInteg else sOk
def rlineE (x : HEv) : List UInt8 := if x.kind = 3 then sCrash else if x.kind = 1 then (sInvoke ++ [32]) ++ Lib.itoa x.client ++ [32] ++ lineP x.op else
 (sReturn ++ [32]) ++ Lib.itoa x.client ++ [32] ++ rword x.err ++ (if x.value = zBk then [] else [32] ++ hexP x.value)
theorem rword_kn {e : Int} (h : kn4 e = true) : rword e = wordE e := by
 rcases kn4_out h with rfl | rfl | rfl | rfl <;> decide
theorem rline_wf {x : HEv} (h : WfE x) : rlineE x = lineE x := by
 obtain ⟨_, _, h⟩ := h
 rcases h with ⟨h1, _⟩ | ⟨h1, _⟩ | ⟨h1, _, h3, h4, h5⟩
 ·rw [rlineE, lineE, if_pos h1, if_pos h1]
 ·rw [rlineE, lineE, if_neg (by omega), if_pos h1, if_neg (by omega), if_pos h1]
 ·have k3 : ¬ x.kind = 3 := by omega
  have k1 : ¬ x.kind = 1 := by omega
  simp only [rlineE, lineE, if_neg k3, if_neg k1, rword_kn h3]
  by_cases hz : x.value = zBk
  ·simp only [if_pos hz, List.append_nil]
  ·simp only [if_neg hz, h5 hz]; simp [wordE, sOk]
def finR24 (s : List UInt8) (x : HEv) : Option HEv := if rlineE x = s then some x else none
def keyR (c : List UInt8) : Int := if c = sArg then 1 else if c = sNonce then 8 else if c = sInteg then 9 else 0
theorem keyR_kn (c : List UInt8) : kn4 (keyR c) = true := by
 unfold keyR
 split
 ·rfl
 ·split
  ·rfl
  ·split <;> rfl
def valR (e : Int) (w : List (List UInt8)) : Option (List UInt8) := match w with
 | [d] => match unhexP d with
  | some v => if v.length = 32 ∧ e = 0 then some v else none
  | none => none
 | _ => some zBk
def evR (s : List UInt8) : Option HEv := match cutL s 32 with
 | none => finR24 s crashE
 | some (a, r1) => match cutL r1 32 with
  | none => finR24 s crashE
  | some (b, rest) =>
   if a = sInvoke then
    match readP rest, intR b with
    | some o, some n => if o.data.length ≤ 64 then finR24 s ⟨1, n, o, zBk, 0⟩ else none
    | _, _ => none
   else if a = sReturn then
    match splitL rest 32 with
    | [] => none
    | c :: w => match valR (keyR c) w, intR b with
     | some v, some n => finR24 s ⟨2, n, zOp, v, keyR c⟩
     | _, _ => none
   else finR24 s crashE
theorem finr_some {s : List UInt8} {x y : HEv} (h : finR24 s x = some y) (hx : WfE x) : WfE y ∧ lineE y = s := by
 unfold finR24 at h
 split at h
 ·rename_i hc
  cases h
  exact ⟨hx, by rw [← rline_wf hx]; exact hc⟩
 ·cases h
theorem evR_some {s : List UInt8} {x : HEv} (h : evR s = some x) : WfE x ∧ lineE x = s := by
 unfold evR at h
 split at h
 ·exact finr_some h crashE_wf
 split at h
 ·exact finr_some h crashE_wf
 split at h
 ·split at h
  ·rename_i o n h1 h2
   split at h
   ·rename_i hd
    obtain ⟨_, r1, r2⟩ := int_some h2
    exact finr_some h ⟨r1, r2, .inr (.inl ⟨rfl, rfl, rfl, (readP_some h1).2, hd⟩)⟩
   ·cases h
  ·cases h
 split at h
 ·split at h
  ·cases h
  ·split at h
   ·rename_i c w _ _ _ v n h1 h2
    obtain ⟨_, r1, r2⟩ := int_some h2
    refine finr_some h ⟨r1, r2, .inr (.inr ⟨rfl, rfl, keyR_kn c, ?_⟩)⟩
    unfold valR at h1
    split at h1
    ·split at h1
     ·split at h1
      ·rename_i hc
       cases h1
       exact ⟨hc.1, fun _ => hc.2⟩
      ·cases h1
     ·cases h1
    ·cases h1
     exact ⟨rfl, fun hz => absurd rfl hz⟩
   ·cases h
 ·exact finr_some h crashE_wf
theorem evR_line {x : HEv} (h : WfE x) : evR (lineE x) = some x := by
 have hR := rline_wf h
 obtain ⟨kind, client, op, value, err⟩ := x
 obtain ⟨r1, r2, h⟩ := h
 have a1 := int_itoa r1 r2
 simp only at r1 r2 a1
 rcases h with ⟨rfl, rfl, rfl, rfl, rfl⟩ | ⟨rfl, rfl, rfl, h4, h5⟩ | ⟨rfl, rfl, h3, h4, h5⟩
 ·rfl
 ·have hl := line_inv ⟨1, client, op, zBk, 0⟩ rfl
  have hf : finR24 (lineE ⟨1, client, op, zBk, 0⟩) ⟨1, client, op, zBk, 0⟩ = some ⟨1, client, op, zBk, 0⟩ := if_pos hR
  have c1 : cutL (lineE ⟨1, client, op, zBk, 0⟩) 32 = some (sInvoke, Lib.itoa client ++ 32 :: lineP op) := by rw [hl]; exact cutL_is _ (by decide)
  unfold evR
  rw [c1]
  simp only
  rw [cutL_is _ (itoa_no32 _)]
  simp only
  rw [if_pos trivial, read_line h4, a1]
  simp only
  rw [if_pos h5]
  exact hf
 ·by_cases hz : value = zBk
  ·subst hz
   have hl := line_ret0 ⟨2, client, zOp, zBk, err⟩ rfl rfl
   have hf : finR24 (lineE ⟨2, client, zOp, zBk, err⟩) ⟨2, client, zOp, zBk, err⟩ = some ⟨2, client, zOp, zBk, err⟩ := if_pos hR
   have c1 : cutL (lineE ⟨2, client, zOp, zBk, err⟩) 32 = some (sReturn, Lib.itoa client ++ 32 :: wordE err) := by rw [hl]; exact cutL_is _ (by decide)
   unfold evR
   rw [c1]
   simp only
   rw [cutL_is _ (itoa_no32 _)]
   simp only
   rw [if_neg (by decide), if_pos trivial, splitL_one (word_no32 h3)]
   have hk : keyR (wordE err) = err := by rcases kn4_out h3 with rfl | rfl | rfl | rfl <;> decide
   simp only [valR, hk, a1]
   exact hf
  ·have he : err = 0 := h5 hz
   subst he
   have hl := line_ret1 ⟨2, client, zOp, value, 0⟩ rfl hz
   have hf : finR24 (lineE ⟨2, client, zOp, value, 0⟩) ⟨2, client, zOp, value, 0⟩ = some ⟨2, client, zOp, value, 0⟩ := if_pos hR
   have c1 : cutL (lineE ⟨2, client, zOp, value, 0⟩) 32 = some (sReturn, Lib.itoa client ++ 32 :: (sOk ++ 32 :: hexP value)) := by rw [hl]; exact cutL_is _ (by decide)
   unfold evR
   rw [c1]
   simp only
   rw [cutL_is _ (itoa_no32 _)]
   simp only
   rw [if_neg (by decide), if_pos trivial, splitL_cons _ (by decide), splitL_one (fun hm => (hexP_mem hm).2 rfl)]
   simp only [valR, show keyR sOk = 0 by decide, unhex_hex, h4, and_self, if_true, a1]
   exact hf
theorem ev_same (s : List UInt8) : evR s = evP s := by
 cases h : evP s with
 | some x =>
  obtain ⟨h1, rfl⟩ := evP_some h
  exact evR_line h1
 | none =>
  cases h2 : evR s with
  | none => rfl
  | some x =>
   obtain ⟨h1, rfl⟩ := evR_some h2
   rw [evP_line h1] at h
   cases h
def hparse (s : List UInt8) (rd : RdS) (h : List HEv) (n : Nat) : List HEv × Nat × Int :=
 if s = [] then (h, 0, 0) else
 match _h : cutL s 10 with
 | none => ([], n, 5)
 | some (t, r) => match evP t with
  | none => ([], n, 5)
  | some x => if 8192 < n then ([], n, 3) else if (takeS rd x).2 = true then hparse r (takeS rd x).1 (h ++ [x]) (n + 1) else ([], n, 18)
termination_by s.length
decreasing_by
 have := (cutL_some _h).1
 rw [this]
 simp
 omega
theorem hparse_nil (rd : RdS) (h : List HEv) (n : Nat) : hparse [] rd h n = (h, 0, 0) := by rw [hparse, if_pos rfl]
theorem hparse_none {s : List UInt8} (rd : RdS) (l : List HEv) (n : Nat) (hs : s ≠ []) (h : cutL s 10 = none) : hparse s rd l n = ([], n, 5) := by
 rw [hparse, if_neg hs]
 split
 ·rfl
 ·rename_i t r h2; rw [h] at h2; cases h2
theorem hparse_some {s t r : List UInt8} (rd : RdS) (l : List HEv) (n : Nat) (hs : s ≠ []) (h : cutL s 10 = some (t, r)) : hparse s rd l n = match evP t with
  | none => ([], n, 5)
  | some x => if 8192 < n then ([], n, 3) else if (takeS rd x).2 = true then hparse r (takeS rd x).1 (l ++ [x]) (n + 1) else ([], n, 18) := by
 rw [hparse, if_neg hs]
 split
 ·rename_i h2; rw [h] at h2; cases h2
 ·rename_i t' r' h2; rw [h] at h2; cases h2; rfl
def hparseR : List (List UInt8) → Nat → List HEv → List HEv × Nat × Int
 | [], _, h => (h, 0, 0)
 | [w], i, h => if w = [] then (h, 0, 0) else ([], i + 1, 5)
 | w :: w2 :: ws, i, h => match evR w with
  | none => ([], i + 1, 5)
  | some x => if 8192 ≤ i then ([], i + 1, 3) else if fitB h x = true then hparseR (w2 :: ws) (i + 1) (h ++ [x]) else ([], i + 1, 18)
theorem hparse_same : ∀ (k : Nat) (s : List UInt8) (rd : RdS) (h : List HEv) (i : Nat), s.length ≤ k → Track h rd → hparseR (splitL s 10) i h = hparse s rd h (i + 1)
 | k, s, rd, h, i, hk, T => by
  rw [split_cut]
  by_cases hs : s = []
  ·subst hs; rw [hparse_nil]; rfl
  cases hc : cutL s 10 with
  | none => rw [hparse_none _ _ _ hs hc, hparseR, if_neg hs]
  | some tr =>
   obtain ⟨t, r⟩ := tr
   rw [hparse_some _ _ _ hs hc]
   simp only
   have hne := splitL_ne r 10
   obtain ⟨w2, ws, hw⟩ := List.exists_cons_of_ne_nil hne
   rw [hw, hparseR, ev_same]
   cases he : evP t with
   | none => rfl
   | some x =>
    simp only
    by_cases h8 : 8192 ≤ i
    ·rw [if_pos h8, if_pos (show 8192 < i + 1 by omega)]
    ·rw [if_neg h8, if_neg (show ¬ 8192 < i + 1 by omega), ← T.fits x]
     cases hb : (takeS rd x).2 with
     | false => rfl
     | true =>
      rw [if_pos rfl, if_pos rfl, ← hw]
      have hl := (cutL_some hc).1
      have hlen : r.length < s.length := by rw [hl]; simp; omega
      cases k with
      | zero => omega
      | succ k => exact hparse_same k r _ _ (i + 1) (by omega) (T.next hb)
theorem hparse_out : ∀ (k : Nat) (s : List UInt8) (rd : RdS) (h : List HEv) (n : Nat) (m : List HEv) (j : Nat) (e : Int), s.length ≤ k → 1 ≤ n → hparse s rd h n = (m, j, e) →
  (e = 0 → j = 0 ∧ ∃ q, m = h ++ q ∧ q.flatMap (fun x => lineE x ++ [10]) = s ∧ (∀ x ∈ q, WfE x) ∧ (n + q.length ≤ 8193 ∨ q = []) ∧ ∀ i, (goS rd q i).2 < 0) ∧ (e ≠ 0 → m = [] ∧ 1 ≤ j)
 | k, s, rd, h, n, m, j, e, hk, hn, hp => by
  by_cases hs : s = []
  ·subst hs
   rw [hparse_nil] at hp
   cases hp
   exact ⟨fun _ => ⟨rfl, [], by simp, rfl, by simp, .inr rfl, fun i => by simp [goS]⟩, fun hne => absurd rfl hne⟩
  cases hc : cutL s 10 with
  | none =>
   rw [hparse_none _ _ _ hs hc] at hp
   cases hp
   exact ⟨fun h => absurd h (by decide), fun _ => ⟨rfl, hn⟩⟩
  | some tr =>
   obtain ⟨t, r⟩ := tr
   rw [hparse_some _ _ _ hs hc] at hp
   cases he : evP t with
   | none =>
    rw [he] at hp
    cases hp
    exact ⟨fun h => absurd h (by decide), fun _ => ⟨rfl, hn⟩⟩
   | some x =>
    rw [he] at hp
    simp only at hp
    by_cases h8 : 8192 < n
    ·rw [if_pos h8] at hp
     cases hp
     exact ⟨fun h => absurd h (by decide), fun _ => ⟨rfl, hn⟩⟩
    rw [if_neg h8] at hp
    cases hb : (takeS rd x).2 with
    | false =>
     rw [hb] at hp
     simp only [Bool.false_eq_true, if_false] at hp
     cases hp
     exact ⟨fun h => absurd h (by decide), fun _ => ⟨rfl, hn⟩⟩
    | true =>
     rw [hb, if_pos rfl] at hp
     have hl := (cutL_some hc).1
     have hlen : r.length < s.length := by rw [hl]; simp; omega
     cases k with
     | zero => omega
     | succ k =>
      obtain ⟨h1, h2⟩ := hparse_out k r _ _ (n + 1) m j e (by omega) (by omega) hp
      refine ⟨fun h0 => ?_, h2⟩
      obtain ⟨g1, q, g2, g3, g4, g5, g6⟩ := h1 h0
      obtain ⟨hx1, hx2⟩ := evP_some he
      refine ⟨g1, x :: q, by rw [g2]; simp, ?_, ?_, ?_, ?_⟩
      ·rw [hl, List.flatMap_cons, g3, hx2]; simp
      ·intro y hy
       rcases List.mem_cons.1 hy with rfl | hy
       ·exact hx1
       ·exact g4 y hy
      ·left
       rcases g5 with g5 | rfl
       ·simp; omega
       ·simp; omega
      ·intro i
       rw [goS, hb]
       exact g6 (i + 1)
theorem line_no10 {x : HEv} (h : WfE x) : (10 : UInt8) ∉ lineE x := by
 obtain ⟨_, _, h⟩ := h
 have hi : ∀ n : Int, (10 : UInt8) ∉ Lib.itoa n := fun n hm => (itoa_mem hm).1 rfl
 rcases h with ⟨h1, _⟩ | ⟨h1, _⟩ | ⟨h1, _, h3, h4, h5⟩
 ·rw [lineE, if_pos h1]; decide
 ·rw [line_inv x h1]
  have := fun hm => (line_mem x.op 10 hm) rfl
  simp only [List.mem_append, List.mem_cons, not_or]
  exact ⟨by decide, by decide, hi _, by decide, this⟩
 ·have hw : (10 : UInt8) ∉ wordE x.err := by rcases kn4_out h3 with e | e | e | e <;> (rw [e]; decide)
  by_cases hz : x.value = zBk
  ·rw [line_ret0 x h1 hz]
   simp only [List.mem_append, List.mem_cons, not_or]
   exact ⟨by decide, by decide, hi _, by decide, hw⟩
  ·rw [line_ret1 x h1 hz]
   simp only [List.mem_append, List.mem_cons, not_or]
   exact ⟨by decide, by decide, hi _, by decide, by decide, by decide, fun hm => (hexP_mem hm).1 rfl⟩
end Go.Proofs.YtmojbghcngdkpaaGreatDoor
namespace Go.Eng
open Go.RowKit
open Go.ChangeMaps (setBlock)
section
variable {P : Program} {T : Tab} {env : Env} {h : Upds} {n : Nat}
theorem range_map {t kt et : Nat} {x : Operand} {rm : Nat} {κ : Type} {enc : κ → D} {l : List (κ × AV)} (ht : P.underlying t = some (.map kt et)) (hx : evalA env x = some (.mapr rm)) (hr : lookH h rm = some (.mo (mapC enc l))) :
  StepIs P (.range t x) env h n (some (.ptr n [])) [(n, some (.mi (.mapr rm) l.length l.length []))] := .of_comes fun C G st σ w a o ho hA hd hst hn => by
 obtain ⟨b, c, hs, hu⟩ := RelV.mapr.1 (ev_sound hst (hA.ev hx)).1
 have hgm : G rm := (ev_sound hst (hA.ev hx)).2
 have hrow := hA.row _ _ hr
 obtain ⟨b', es, hb1, hb2, hb3, hb4⟩ := hst.rows rm _ hrow
 rw [hs] at hb2
 cases hb2
 have hl : es.size = l.length := by
  have := ((mapC_rel l _).1 hb4).len
  simpa using this
 have hnn : ¬ G n := hn n (Nat.le_refl _) (by omega)
 have hne : rm ≠ n := fun e => hnn (e ▸ hgm)
 have hnew := StRel.freshBy hst hnn (w' := w.alloc (.mapIter (some b) es.size #[] es.size)) (by
   refine ⟨rfl, rfl, rfl, by simp, fun k hk _ => ?_⟩
   exact heap_alloc_old w _ hk) (Nat.le_refl _) (b := w.heap.size) (c := 1) (.mi (.mapr rm) l.length l.length []) hgm (fun σ' X' h1 _ hs' => ⟨w.heap.size, b, hs', by rw [← hl]; exact heap_alloc_new w _, h1 (.mapr rm) false _ hgm ⟨b, 1, hs, rfl⟩⟩)
 refine ⟨some (.ptr n []), [(n, some (.mi (.mapr rm) l.length l.length []))], .value (.pointer (some ⟨w.heap.size, 0, none⟩)), .pointer (some ⟨w.heap.size, 0, none⟩), w.alloc (.mapIter (some b) es.size #[] es.size), fun q => if q = n then some (w.heap.size, 1) else σ q, fun q => G q ∨ q = n, ⟨rfl, rfl⟩, ?_, .inl rfl, ?_, fun r hr => .inl hr, fun r hr => hr.imp id (fun e => by omega)⟩
 ·have hget : (getObj b).run P w = .ok (.map es es.size) w := by simp [getObj, Sem.run, hb3]
  simp [execOp, ho, Instr.range, run_underlying ht, hu, newObj, Sem.run, hget]
 ·rw [St.put_upd]
  exact hnew.set hd (RelV.ptr.2 ⟨w.heap.size, 1, by simp, by simp [pathOff]⟩) (.inr rfl)
theorem EntRel.at {κ : Type} {enc : κ → D} {σ : Place} {w : World} {X : Nat → Prop} : ∀ (l : List (κ × AV)) (es : List MapEntry), EntRel σ w X enc l es → ∀ (i : Nat) (e : MapEntry), es[i]? = some e →
  ∃ k v, l[i]? = some (k, v) ∧ RelV σ w X (.d (enc k)) e.key ∧ RelV σ w X v e.val
 | [], es, h, i, e, he => by rw [show es = [] from h] at he; simp at he
 | (k, v) :: l, es, h, i, e, he => by
  obtain ⟨e0, es', rfl, h1, h2, h3⟩ := h
  cases i with
  | zero =>
   simp only [List.getElem?_cons_zero, Option.some.injEq] at he
   subst he
   exact ⟨k, v, rfl, h1, h2⟩
  | succ i => exact EntRel.at l es' h3 i e (by simpa using he)
theorem entry_map {x : Operand} {r rm L i : Nat} {seen : List Nat} {κ : Type} {enc : κ → D} {l : List (κ × AV)} {k : κ} {v : AV} (hx : evalA env x = some (.ptr r [])) (hr : lookH h r = some (.mi (.mapr rm) L L (seen ++ [i]))) (hm : lookH h rm = some (.mo (mapC enc l))) (hL : L = l.length) (hi : l[i]? = some (k, v)) :
  StepIs P (.entry x) env h n (some (.tup (.acons (.d (enc k)) (.acons v .anil)))) [] := .of_comes fun C G st σ w a o ho hA hd hst hn => by
 subst hL
 have hrow := hA.row _ _ hr
 have hrowm := hA.row _ _ hm
 obtain ⟨b, m, hb1, hb2, hb3⟩ := hst.rows r _ hrow
 obtain ⟨bm, es, hm0, hm1, hm2, hm3⟩ := hst.rows rm _ hrowm
 obtain ⟨bm', c', e1, e2⟩ := hb3
 rw [hm1] at e1
 cases e1
 simp only [List.cons.injEq, Value.map.injEq, Option.some.injEq, and_true] at e2
 subst e2
 obtain ⟨b', c', hs', hu⟩ := RelV.ptr.1 (ev_sound hst (hA.ev hx)).1
 rw [hb1] at hs'
 cases hs'
 have hent := (mapC_rel l _).1 hm3
 have hlen : es.size = l.length := by simpa using hent.len
 have hlt : i < es.size := by rw [hlen]; exact (List.getElem?_eq_some_iff.1 hi).1
 have hei : es[i]? = some es[i] := Array.getElem?_eq_getElem hlt
 have hbi := hm0 i _ hei
 obtain ⟨k', v', q1, q2, q3⟩ := EntRel.at l _ hent i es[i] (by simp)
 rw [hi] at q1
 cases q1
 have hnd : (es.toList.map (·.born)).Nodup := by
  rw [show es.toList.map (·.born) = List.range es.size by
   apply List.ext_getElem?
   intro j
   rw [List.getElem?_map]
   by_cases hj : j < es.size
   ·rw [List.getElem?_eq_getElem (by simpa using hj), List.getElem?_range hj]
    have := hm0 j _ (Array.getElem?_eq_getElem hj)
    simp [this]
   ·rw [List.getElem?_eq_none (by simpa using hj), List.getElem?_eq_none (by simpa using hj)]; rfl]
  exact List.nodup_range
 refine .quiet (u := .tuple #[es[i].key, es[i].val]) hst hd ⟨rfl, rfl⟩ ?_ ?_ ?_
 ·have hrun := run_entry_at (P := P) w b m l.length seen.toArray es es.size es[i] (by rw [hb2, hbi, hlen, List.push_toArray]) hm2 (by simp) hnd
  simp only [execOp, ho, hu, pathOff, Sem.run_bind, hrun, Result.andThen_ok, Sem.run_pure]
 ·unfold RelV
  rw [if_neg (by simp [AV.isAgg])]
  exact ⟨_, rfl, _, _, rfl, q2, _, _, rfl, q3, rfl⟩
 ·exact ⟨trivial, (mapC_within l).1 (hst.rowsG rm _ hrowm).2 (k, v) (List.mem_of_getElem? hi), trivial⟩
variable {sz : Nat} {all rest : List Oper} {K : Env → Upds → Nat → Prop}
theorem reg_next_map {d : Tmp} {x : Operand} {ty : TypeId} {pos : String} {af : Array Edge} {r rm L : Nat} {seen : List Nat} {κ : Type} {enc : κ → D} {l : List (κ × AV)} (hd : Nat.blt d sz = true) (hx : evalA env x = some (.ptr r []))
  (hr : lookH h r = some (.mi (.mapr rm) L L seen)) (hm : lookH h rm = some (.mo (mapC enc l))) (hL : L = l.length)
  (hend : (∀ i, i < l.length → i ∈ seen) → RegS P all sz rest (n + 8) ((d, .tup (.acons (.bool false) .anil)) :: env) h K)
  (hgo : ∀ i k v, l[i]? = some (k, v) → i ∉ seen → RegS P all sz rest (n + 8) ((d, .tup (.acons (.bool true) (.acons (.d (enc k)) (.acons v .anil)))) :: env) ((r, some (.mi (.mapr rm) L L (seen ++ [i]))) :: h) K) :
  RegS P all sz (⟨some d, .next x false, ty, pos, af, none⟩ :: rest) n env h K := by
 subst hL
 intro C σ w a hst Q hQ
 have hrow : (⟨env, h, n, sz, 64⟩ : St).row r = some (.mi (.mapr rm) l.length l.length seen) := by rw [← lookH_row]; exact hr
 have hrowm : (⟨env, h, n, sz, 64⟩ : St).row rm = some (.mo (mapC enc l)) := by rw [← lookH_row]; exact hm
 obtain ⟨b, m, hb1, hb2, hb3⟩ := hst.rows r _ hrow
 obtain ⟨bm, es, hm0, hm1, hm2, hm3⟩ := hst.rows rm _ hrowm
 obtain ⟨bm', c', e1, e2⟩ := hb3
 rw [hm1] at e1
 cases e1
 simp only [List.cons.injEq, Value.map.injEq, Option.some.injEq, and_true] at e2
 subst e2
 obtain ⟨b', c', hs', hu⟩ := RelV.ptr.1 (ev_sound hst hx).1
 rw [hb1] at hs'
 cases hs'
 have hlen : es.size = l.length := by simpa using ((mapC_rel l _).1 hm3).len
 have hborn : ∀ e ∈ es.toList, e.born < l.length := by
  intro e he
  obtain ⟨i, hi⟩ := List.getElem?_of_mem he
  have hi' : es[i]? = some e := by simpa using hi
  rw [hm0 i e hi']
  have := (Array.getElem?_eq_some_iff.1 hi').1
  omega
 have hdst : dstOk (some d) sz = true := hd
 unfold wpListIn
 rw [if_pos (show Region.wanted _ _ = true from rfl)]
 refine ⟨fun _ _ => trivial, ?_⟩
 rcases run_next_at (P := P) w ty b m l.length l.length seen.toArray es es.size hb2 hm2 hborn (Nat.le_refl _) with ⟨h0, hrun⟩ | ⟨e, he, w1, hw1, hrun⟩
 ·have hex : (execOp a.eval ⟨some d, .next x false, ty, pos, af, none⟩).run P w = .ok (.value (.tuple #[.bool false])) w := by
   simp only [execOp, hu, pathOff, Sem.run_bind, hrun, Result.andThen_ok, Sem.run_pure]
  rw [semAt_fen hex (fun c hc => by cases hc)]
  have hst2 := hst.set (v := some (.tup (.acons (.bool false) .anil))) (u := .tuple #[.bool false]) (dst := some d) (dstOk_out hdst) (by
   unfold RelV
   rw [if_neg (by simp [AV.isAgg])]
   exact ⟨_, rfl, _, _, rfl, RelV.sc.2 ⟨rfl, rfl⟩, rfl⟩) ⟨trivial, trivial⟩
  rw [put_eq] at hst2
  refine hend ?_ C σ w _ ?_ Q hQ
  ·intro i hi
   have hlt : i < es.size := by omega
   have h1 : es[i].born = i := hm0 i _ (Array.getElem?_eq_getElem hlt)
   by_cases hc : i ∈ seen
   ·exact hc
   ·exfalso
    have : es[i] ∈ leftOf es seen.toArray := by
     unfold leftOf
     rw [Array.mem_filter]
     refine ⟨by simp, ?_⟩
     rw [h1]
     simpa using hc
    have := Array.size_pos_of_mem this
    omega
  ·have := hst2.grow (G' := fun r => r < n + 8) (fun r hr => Nat.lt_of_lt_of_le hr (Nat.le_add_right n 8))
   exact { this with }
 ·have hheap : w1.heap = w.heap := by rcases hw1 with rfl | rfl <;> rfl
  have hst1 : StRel C (fun r => r < n) ⟨env, h, n, sz, 64⟩ σ w1 a := by
   rcases hw1 with rfl | rfl
   ·exact hst
   ·exact hst.drew
  obtain ⟨bm2, es2, _, k1, k2, k3⟩ := hst1.rows rm _ hrowm
  rw [hm1] at k1
  cases k1
  rw [hheap, hm2] at k2
  cases k2
  have hmem : e ∈ es.toList ∧ e.born ∉ seen := by
   unfold leftOf at he
   rw [Array.mem_toList_iff, Array.mem_filter] at he
   exact ⟨by simpa using he.1, by simpa using he.2⟩
  obtain ⟨i, hi⟩ := List.getElem?_of_mem hmem.1
  have hi' : es[i]? = some e := by simpa using hi
  have hbi := hm0 i e hi'
  obtain ⟨k, v, q1, q2, q3⟩ := EntRel.at l _ ((mapC_rel l _).1 k3) i e hi
  have hex : (execOp a.eval ⟨some d, .next x false, ty, pos, af, none⟩).run P w = .ok (.value (.tuple #[.bool true, e.key, e.val])) (setBlock w1 b (.mapIter (some m) l.length (seen.toArray.push e.born) es.size)) := by
   simp only [execOp, hu, pathOff, Sem.run_bind, hrun, Result.andThen_ok, Sem.run_pure]
  rw [semAt_fen hex (fun c hc => by cases hc)]
  have hgv : v.within (fun r => r < n) := (mapC_within l).1 (hst.rowsG rm _ hrowm).2 (k, v) (List.mem_of_getElem? q1)
  have hgm : rm < n := (hst.rowsG rm _ hrowm).1
  have hst2 := hst1.set (v := some (.tup (.acons (.bool true) (.acons (.d (enc k)) (.acons v .anil))))) (u := .tuple #[.bool true, e.key, e.val]) (dst := some d) (dstOk_out hdst) (by
   unfold RelV
   rw [if_neg (by simp [AV.isAgg])]
   exact ⟨_, rfl, _, _, rfl, RelV.sc.2 ⟨rfl, rfl⟩, _, _, rfl, q2, _, _, rfl, q3, rfl⟩) ⟨trivial, trivial, hgv, trivial⟩
  rw [put_eq] at hst2
  have hrow2 : (⟨putE (some d) (some (.tup (.acons (.bool true) (.acons (.d (enc k)) (.acons v .anil))))) env, [] ++ h, n, sz, 64⟩ : St).row r = some (.mi (.mapr rm) l.length l.length seen) := by rw [← lookH_row]; exact hr
  have hst3 := hst2.writeObj (o' := .mapIter (some m) l.length (seen.toArray.push e.born) es.size) (row := .mi (.mapr rm) l.length l.length (seen ++ [i])) hrow2 hb1 (by rw [hheap]; exact hb2) rfl hgm
   (fun w' ht hh' => ⟨b, m, hb1, by rw [hh', hbi, hlen, List.push_toArray], ht (.mapr rm) false _ hgm ⟨m, 1, hm1, rfl⟩⟩)
  refine hgo i k v q1 (by rw [← hbi]; exact hmem.2) C σ _ _ ?_ Q hQ
  have := hst3.grow (G' := fun r => r < n + 8) (fun r hr => Nat.lt_of_lt_of_le hr (Nat.le_add_right n 8))
  exact { this with }
end
end Go.Eng
namespace Go.Eng
open Go.RowKit
section
variable {P : Program} {T : Tab} {env : Env} {h : Upds} {n : Nat}
end
end Go.Eng
namespace Go.Eng
open Go.RowKit
set_option linter.unusedSimpArgs false
section
variable {P : Program} {T : Tab} {env : Env} {h : Upds} {n : Nat}
theorem run_neq_ni {t : Nat} {w : World} {ms} (hud : P.underlying t = some (.interface ms)) : (binOp .neq t .nilIface .nilIface).run P w = .ok (.bool false) w := by
 have h1 : (Op.equalIn 10000 t .nilIface .nilIface).run P w = .ok true w := by
  rw [show (10000 : Nat) = 9999 + 1 from rfl, Op.equalIn]
  simp only [Sem.run_bind, run_underlying hud, Result.andThen_ok, Sem.run_pure]
 show (do let b ← Op.equalIn 10000 t _ _; pure (Value.bool !b) : Sem Value).run P w = _
 simp only [Sem.run_bind, h1, Result.andThen_ok, Sem.run_pure, Bool.not_true]
theorem run_neq_er {t t1 : Nat} {w : World} {ms} {v : Value} (hud : P.underlying t = some (.interface ms)) : (binOp .neq t (.iface t1 v) .nilIface).run P w = .ok (.bool true) w := by
 have h1 : (Op.equalIn 10000 t (.iface t1 v) .nilIface).run P w = .ok false w := by
  rw [show (10000 : Nat) = 9999 + 1 from rfl, Op.equalIn]
  simp only [Sem.run_bind, run_underlying hud, Result.andThen_ok, Sem.run_pure]
 show (do let b ← Op.equalIn 10000 t _ _; pure (Value.bool !b) : Sem Value).run P w = _
 simp only [Sem.run_bind, h1, Result.andThen_ok, Sem.run_pure, Bool.not_false]
theorem neq_nilI {t t' : Nat} {x : Operand} {ms} (hu : P.underlying t = some (.interface ms)) (hx : evalA env x = some (.d (.sc .nilIface))) :
  StepIs P (.binOp .neq t x (.const .nilIface) t') env h n (some (.bool false)) [] := .of_comes fun C G st σ w ac o ho hA hdst hst hn => by
 obtain ⟨hv, _⟩ := RelV.sc.1 (ev_sound hst (hA.ev hx)).1
 refine .quiet (u := .bool false) hst hdst ⟨rfl, rfl⟩ ?_ (RelV.sc.2 ⟨rfl, rfl⟩) trivial
 have hg : (eqGuard .neq t x (.const .nilIface) .nilIface .nilIface).run P w = .ok () w := by
  simp [eqGuard]
  try (cases x <;> rfl)
 have hc : ac.eval (.const .nilIface) = .nilIface := rfl
 simp only [execOp, ho, hv, hc, Sem.run_bind, hg, Result.andThen_ok, run_neq_ni hu, Sem.run_pure]
theorem neq_er {t t' : Nat} {x : Operand} {ms} (hu : P.underlying t = some (.interface ms)) (hx : evalA env x = some .er) :
  StepIs P (.binOp .neq t x (.const .nilIface) t') env h n (some (.bool true)) [] := .of_comes fun C G st σ w ac o ho hA hdst hst hn => by
 obtain ⟨t1, v, hv⟩ := RelV.er.1 (ev_sound hst (hA.ev hx)).1
 refine .quiet (u := .bool true) hst hdst ⟨rfl, rfl⟩ ?_ (RelV.sc.2 ⟨rfl, rfl⟩) trivial
 have hg : (eqGuard .neq t x (.const .nilIface) (.iface t1 v) .nilIface).run P w = .ok () w := rfl
 have hc : ac.eval (.const .nilIface) = .nilIface := rfl
 simp only [execOp, ho, hv, hc, Sem.run_bind, hg, Result.andThen_ok, run_neq_er hu, Sem.run_pure]
theorem slice_ipt (hT : TabOk P T) {t e L s : Nat} {re : TyR} {x : Operand} {α : Type} {enc : α → D} {xs : List α} (ht : tdesc T t = some (.array L e)) (he : lk T e = some re) (hx : evalA env x = some (.iptr (.vec L s enc xs))) (hL : Nat.ble L 1048576 = true) (hs0 : Nat.blt 0 s = true) :
  StepIs P (.slice t x none none none) env h n (some (.d (.arr s enc xs))) [] := .of_comes fun C G st σ w a o ho hA hdst hst hn => by
 obtain ⟨ud, hud, hdd⟩ := tdesc_und hT ht
 cases hdd
 have hL := Nat.le_of_ble_eq_true hL
 have hs0 := Nat.le_of_ble_eq_true hs0
 have hsz := (hT e re he).run_size (P := P)
 obtain ⟨ad, cs, hv, ⟨hl, f, hf, hcs⟩, hc⟩ := RelV.iptr.1 (ev_sound hst (hA.ev hx)).1
 have hmax : (1048576 : Nat) ≤ maxLen := by decide
 refine .quiet (u := .slice (some ad) L L) hst hdst ⟨rfl, rfl⟩ ?_ (RelV.arr.2 (.inr ⟨ad, L, by rw [hl], by omega, by omega, f, fun i hi => ⟨(hf i hi).1, (hf i hi).2, fun j u hj => ?_⟩⟩)) trivial
 ·simp [execOp, ho, Instr.sliceAt, hv, Instr.sureAddr, run_underlying hud, Instr.sliceBounds, Instr.sliceBound, asIntOf, hsz, Sem.run_bind, Sem.run_pure, Result.andThen_ok, Addr.add_zero']
 ·have hjs : j < s := by rw [← (hf i hi).2]; exact (List.getElem?_eq_some_iff.1 hj).1
  have := cat_get xs.length (fun i hi => (hf i hi).2) i j hi hjs
  rw [hj] at this
  refine hc _ _ ?_
  rw [hcs, ← hl]
  exact this
end
end Go.Eng
namespace Go.Proofs.YtmojbghcngdkpaaGreatDoor
open Go.Eng Go.Plain
set_option maxHeartbeats 8000000
set_option maxRecDepth 20000
attribute [local irreducible] WC RegS RegD SeqQ BlkQ ScoQ RegK CutK Sat SatN FnIs LoopQ StepIs OpIs
theorem rword_is (e : Int) : FnIs Tryz.prog 113 [.int .i64 e] [] (.d (strD (rword e))) [] := by
 refine fnIs_of tab_ok Tryz.func113 rfl rfl rfl ?_
 unfold rword
 by_cases e1 : e = 1
 ·have d1 : decide (e = 1) = true := dT e1
  rw [if_pos e1]
  refine sR ?_;refine rC ?_;refine nQ ?_;refine sR ?_;refine rC ?_;refine nS ?_;refine wc_block ?_;refine sR ?_;iterate 2 refine rC ?_
  refine nS ?_;refine wT ?_;refine sR ?_;refine rC ?_;refine nS ?_;refine wc_ret ?_;refine blk_r ?_;refine seq_r ?_
  exact ⟨trivial, [], lf⟩
 have d1 : decide (e = 1) = false := dF e1
 rw [if_neg e1]
 by_cases e8 : e = 8
 ·have d8 : decide (e = 8) = true := dT e8
  rw [if_pos e8]
  refine sR ?_;refine rC ?_;refine nQ ?_;refine sR ?_;refine rC ?_;refine nS ?_;refine wc_block ?_;refine sR ?_;iterate 2 refine rC ?_
  refine nS ?_;refine wF ?_;refine sR ?_;iterate 2 refine rC ?_
  refine nS ?_;refine wT ?_;refine sR ?_;refine rC ?_;refine nS ?_;refine wc_ret ?_;refine blk_r ?_;refine seq_r ?_
  exact ⟨trivial, [], lf⟩
 have d8 : decide (e = 8) = false := dF e8
 rw [if_neg e8]
 by_cases e9 : e = 9
 ·have d9 : decide (e = 9) = true := dT e9
  rw [if_pos e9]
  refine sR ?_;refine rC ?_;refine nQ ?_;refine sR ?_;refine rC ?_;refine nS ?_;refine wc_block ?_;refine sR ?_;iterate 2 refine rC ?_
  refine nS ?_;refine wF ?_;refine sR ?_;iterate 2 refine rC ?_
  refine nS ?_;refine wF ?_;refine sR ?_;iterate 2 refine rC ?_
  refine nS ?_;refine wT ?_;refine sR ?_;refine rC ?_;refine nS ?_;refine wc_ret ?_;refine blk_r ?_;refine seq_r ?_
  exact ⟨trivial, [], lf⟩
 have d9 : decide (e = 9) = false := dF e9
 rw [if_neg e9]
 refine sR ?_;refine rC ?_;refine nQ ?_;refine sR ?_;refine rC ?_;refine nS ?_;refine wc_block ?_;refine sR ?_;iterate 2 refine rC ?_
 refine nS ?_;refine wF ?_;refine sR ?_;iterate 2 refine rC ?_
 refine nS ?_;refine wF ?_;refine sR ?_;iterate 2 refine rC ?_
 refine nS ?_;refine wF ?_;refine wc_skip ?_;refine blk_n ?_;refine seq_n ?_;refine sR ?_;refine rC ?_;refine nS ?_;refine wc_ret ?_
 exact ⟨trivial, [], lf⟩
theorem rword_len (e : Int) : (rword e).length ≤ 9 := by
 unfold rword
 split
 ·decide
 ·split
  ·decide
  ·split <;> decide
theorem rline24_is (x : HEv) (hok : x.Ok) (hd : x.op.data.length ≤ 1000000) : FnIs Tryz.prog 74 [.d (encEv x)] [] (.d (strD (rlineE x))) [] := by
 have hdL : x.op.data.length ≤ 1000000000 := by omega
 have hil := itoa_len hok.client.1 hok.client.2
 have hll := line_len hok.op
 have hwl := rword_len x.err
 have hvl := hok.value
 have hhl := hexP_len x.value
 unfold rlineE
 refine fnIs_of tab_ok Tryz.func74 rfl rfl rfl ?_;refine sR ?_;refine rN ?_;refine rC ?_;refine nS ?_;refine wc_freeze (env' := [(1, _), (2, _), (0, _)]) (h' := []) 64 _ rfl ⟨⟨_, rfl, Frz.ptr⟩, ⟨_, rfl, .refl _⟩, ⟨_, rfl, .refl _⟩, trivial⟩ trivial ?_
 by_cases k3 : x.kind = 3
 ·have d3 : decide (x.kind = 3) = true := dT k3
  rw [if_pos k3]
  refine qR ?_;refine rQ (fieldAddr_pt tab_ok rfl rfl rfl rfl) ?_;refine rQ iL ?_;refine rC ?_;refine nS ?_;refine wT ?_;refine sR ?_;refine rC ?_;refine nS ?_;refine wc_ret ?_
  refine seq_r ?_
  exact ⟨trivial, [], lf⟩
 have d3 : decide (x.kind = 3) = false := dF k3
 rw [if_neg k3]
 by_cases k1 : x.kind = 1
 ·have d1 : decide (x.kind = 1) = true := dT k1
  rw [if_pos k1]
  refine qR ?_;refine rQ (fieldAddr_pt tab_ok rfl rfl rfl rfl) ?_;refine rQ iL ?_;refine rC ?_;refine nS ?_;refine wF ?_;refine kS ?_;refine qR ?_;refine rQ (fieldAddr_pt tab_ok rfl rfl rfl rfl) ?_
  refine rQ iL ?_;refine rC ?_;refine nS ?_;refine wT ?_;refine wc_seq ?_;refine wc_draw (by kernel_rfl) ?_;refine dQ [1] [] (fieldAddr_pt tab_ok rfl rfl rfl rfl) ?_
  refine dQ [11] [] iL ?_;refine dQ [12] [] (call_r (number_is x.client hok.client.1 hok.client.2) rfl rfl (arg_e arg_nil) (.inl rfl) (fun _ => rfl)) ?_
  refine dQ [13] [] (add_str (a := sInvoke ++ [32]) (b := Lib.itoa x.client) rfl rfl (by simp [sInvoke]; omega) rfl) ?_
  refine dQ [14] [] (add_str (a := (sInvoke ++ [32]) ++ Lib.itoa x.client) (b := [32]) rfl rfl (by simp [sInvoke]; omega) rfl) ?_
  refine dQ [1] [] (fieldAddr_pt tab_ok rfl rfl rfl rfl) ?_;refine dQ [16] [] iL ?_;refine dQ [17] [] (call_r (rline_is x.op hok.op hdL) rfl rfl (arg_e arg_nil) (.inl rfl) (fun _ => rfl)) ?_
  refine dQ [15, 18] [] (add_str (a := (sInvoke ++ [32]) ++ Lib.itoa x.client ++ [32]) (b := lineP x.op) rfl rfl (by simp [sInvoke]; omega) rfl) ?_
  refine dC [19] [] ?_;refine dreg_end (by kernel_rfl) ?_;refine seq_n ?_;refine wc_ret ?_;refine seq_r ?_
  exact ⟨trivial, [], lf⟩
 have d1 : decide (x.kind = 1) = false := dF k1
 rw [if_neg k1]
 by_cases hz : x.value = zBk
 ·have dz : (!decide (x.value = zBk)) = false := by rw [dT hz]; rfl
  rw [if_pos hz, List.append_nil]
  refine qR ?_;refine rQ (fieldAddr_pt tab_ok rfl rfl rfl rfl) ?_;refine rQ iL ?_;refine rC ?_;refine nS ?_;refine wF ?_;refine kS ?_;refine qR ?_;refine rQ (fieldAddr_pt tab_ok rfl rfl rfl rfl) ?_
  refine rQ iL ?_;refine rC ?_;refine nS ?_;refine wF ?_;refine kS ?_;refine wc_seq ?_;refine wc_draw (by kernel_rfl) ?_;refine dQ [1] [] (fieldAddr_pt tab_ok rfl rfl rfl rfl) ?_
  refine dQ [20] [] iL ?_;refine dQ [21] [] (call_r (number_is x.client hok.client.1 hok.client.2) rfl rfl (arg_e arg_nil) (.inl rfl) (fun _ => rfl)) ?_
  refine dQ [22] [] (add_str (a := sReturn ++ [32]) (b := Lib.itoa x.client) rfl rfl (by simp [sReturn]; omega) rfl) ?_
  refine dQ [23] [] (add_str (a := (sReturn ++ [32]) ++ Lib.itoa x.client) (b := [32]) rfl rfl (by simp [sReturn]; omega) rfl) ?_
  refine dQ [1] [] (fieldAddr_pt tab_ok rfl rfl rfl rfl) ?_;refine dQ [25] [] iL ?_;refine dQ [26] [] (call_r (rword_is x.err) rfl rfl (arg_e arg_nil) (.inl rfl) (fun _ => rfl)) ?_
  refine dQ [24, 27] [] (add_str (a := (sReturn ++ [32]) ++ Lib.itoa x.client ++ [32]) (b := rword x.err) rfl rfl (by simp [sReturn]; omega) rfl) ?_
  refine dC [28] [] ?_;refine dreg_end (by kernel_rfl) ?_;refine seq_n ?_;refine sR ?_;refine rQ (build_array tab_ok rfl rfl rfl) ?_;refine rN ?_;refine rW ?_;refine nQ ?_
  refine sR ?_;refine rQ (fieldAddr_pt tab_ok rfl rfl rfl rfl) ?_;refine rQ iL ?_;refine rQ iM ?_;refine rQ (neq_data rfl rfl rfl rfl (by kernel_rfl) (by decide) (block_eq x.value zBk)) ?_
  refine nS ?_;refine wF ?_;refine kS ?_;refine sR ?_;iterate 2 refine rC ?_
  refine nS ?_;refine wc_ret ?_
  exact ⟨trivial, [], lf⟩
 ·have dz : (!decide (x.value = zBk)) = true := by rw [dF hz]; rfl
  rw [if_neg hz, ← List.append_assoc]
  refine qR ?_;refine rQ (fieldAddr_pt tab_ok rfl rfl rfl rfl) ?_;refine rQ iL ?_;refine rC ?_;refine nS ?_;refine wF ?_;refine kS ?_;refine qR ?_;refine rQ (fieldAddr_pt tab_ok rfl rfl rfl rfl) ?_
  refine rQ iL ?_;refine rC ?_;refine nS ?_;refine wF ?_;refine kS ?_;refine wc_seq ?_;refine wc_draw (by kernel_rfl) ?_;refine dQ [1] [] (fieldAddr_pt tab_ok rfl rfl rfl rfl) ?_
  refine dQ [20] [] iL ?_;refine dQ [21] [] (call_r (number_is x.client hok.client.1 hok.client.2) rfl rfl (arg_e arg_nil) (.inl rfl) (fun _ => rfl)) ?_
  refine dQ [22] [] (add_str (a := sReturn ++ [32]) (b := Lib.itoa x.client) rfl rfl (by simp [sReturn]; omega) rfl) ?_
  refine dQ [23] [] (add_str (a := (sReturn ++ [32]) ++ Lib.itoa x.client) (b := [32]) rfl rfl (by simp [sReturn]; omega) rfl) ?_
  refine dQ [1] [] (fieldAddr_pt tab_ok rfl rfl rfl rfl) ?_;refine dQ [25] [] iL ?_;refine dQ [26] [] (call_r (rword_is x.err) rfl rfl (arg_e arg_nil) (.inl rfl) (fun _ => rfl)) ?_
  refine dQ [24, 27] [] (add_str (a := (sReturn ++ [32]) ++ Lib.itoa x.client ++ [32]) (b := rword x.err) rfl rfl (by simp [sReturn]; omega) rfl) ?_
  refine dC [28] [] ?_;refine dreg_end (by kernel_rfl) ?_;refine seq_n ?_;refine sR ?_;refine rQ (build_array tab_ok rfl rfl rfl) ?_;refine rN ?_;refine rW ?_;refine nQ ?_
  refine sR ?_;refine rQ (fieldAddr_pt tab_ok rfl rfl rfl rfl) ?_;refine rQ iL ?_;refine rQ iM ?_;refine rQ (neq_data rfl rfl rfl rfl (by kernel_rfl) (by decide) (block_eq x.value zBk)) ?_
  refine nS ?_;refine wT ?_;refine wc_region ?_;refine rC ?_
  refine rQ (add_str (a := (sReturn ++ [32]) ++ Lib.itoa x.client ++ [32] ++ rword x.err) (b := [32]) rfl rfl (by simp [sReturn]; omega) rfl) ?_
  refine rQ (fieldAddr_pt tab_ok rfl rfl rfl rfl) ?_;refine rQ (slice_ipt tab_ok rfl rfl rfl rfl rfl) ?_;refine rQ (call_r (rhex_is x.value (by omega)) rfl rfl (arg_e arg_nil) (.inl rfl) (fun _ => rfl)) ?_
  refine rQ (add_str (a := (sReturn ++ [32]) ++ Lib.itoa x.client ++ [32] ++ rword x.err ++ [32]) (b := hexP x.value) rfl rfl (by simp [sReturn]; omega) rfl) ?_
  refine rC ?_;refine nR ?_;iterate 2 refine rC ?_
  refine nS ?_;refine wc_ret ?_
  exact ⟨trivial, [], lf⟩
def rtextE (h : List HEv) : List UInt8 := h.flatMap fun x => rlineE x ++ [10]
def cntC (l : List HOp) (c : Int) : Int := (l.countP fun o => decide (o.client = c) : Nat)
def retOf (c : Int) : List HEv → Nat → Option (Nat × HEv)
 | [], _ => none
 | x :: l, k => if x.kind = 3 then none else if x.client = c then some (k, x) else retOf c l (k + 1)
def opBase (x : HEv) (i : Nat) (era n : Int) : HOp := ⟨x.client, n, era, x.op, i, -1, zBk, 0⟩
def opAns (o : HOp) : Option (Nat × HEv) → HOp
 | none => o
 | some (k, y) => { o with returned := k, value := y.value, err := y.err }
def mkOp (h : List HEv) (i : Nat) (x : HEv) (out : List HOp) (era : Int) : HOp := opAns (opBase x i era (cntC out x.client)) (retOf x.client (h.drop (i + 1)) (i + 1))
def opsRG (h : List HEv) : Nat → Nat → List HOp → Int → List HOp
 | 0, _, out, _ => out
 | n + 1, i, out, era => match h[i]? with
  | none => out
  | some x => if x.kind = 3 then opsRG h n (i + 1) out (era + 1) else if x.kind = 1 then opsRG h n (i + 1) (out ++ [mkOp h i x out era]) era else opsRG h n (i + 1) out era
def opsR (h : List HEv) : List HOp := opsRG h h.length 0 [] 0
theorem cntC_take {l : List HOp} {k : Nat} {o : HOp} (c : Int) (ho : l[k]? = some o) : cntC (l.take (k + 1)) c = cntC (l.take k) c + (if o.client = c then 1 else 0) := by
 rw [cntC, cntC, List.take_add_one, ho, Option.toList_some, List.countP_append]
 by_cases h : o.client = c <;> simp [h]
theorem cntC_le (l : List HOp) (c : Int) : 0 ≤ cntC l c ∧ cntC l c ≤ l.length := by
 have := List.countP_le_length (p := fun o : HOp => decide (o.client = c)) (l := l)
 unfold cntC
 omega
theorem retOf_step {h : List HEv} {k : Nat} {y : HEv} (c : Int) (hy : h[k]? = some y) : retOf c (h.drop k) k = if y.kind = 3 then none else if y.client = c then some (k, y) else retOf c (h.drop (k + 1)) (k + 1) := by
 have hlt := (List.getElem?_eq_some_iff.1 hy).1
 rw [List.drop_eq_getElem_cons hlt, (List.getElem?_eq_some_iff.1 hy).2]
 rfl
theorem rops_own (h : List HEv) (hL : h.length ≤ 1000000) : FnIs Tryz.prog 27 [.d (encH h)] [] (.own 64 0 (opsR h).length 41 none) [(64, opRow (opsR h))] := by
 refine fnIs_of tab_ok Tryz.func27 rfl rfl rfl ?_;refine sR ?_;refine rC ?_;refine nR ?_;refine rC ?_;refine nR ?_;refine rC ?_;refine nQ ?_;refine sR ?_;refine rC ?_
 refine nS ?_;refine wc_block ?_
 refine wc_inv (fun q : Nat × List HOp × Int => ⟨[(5, .int .i64 q.1), (4, .int .i64 q.2.2), (3, .own 65 0 q.2.1.length 41 none), (0, .d (encH h))], [(65, some (opRow q.2.1))], 72, Tryz.f27.ntmps, 64⟩) (fun q => q.1 ≤ h.length ∧ q.2.1.length ≤ q.1 ∧ 0 ≤ q.2.2 ∧ q.2.2 ≤ q.1 ∧ opsRG h (h.length - q.1) q.1 q.2.1 q.2.2 = opsR h) (fun q => h.length - q.1) (0, [], 0) [(65, none)] ⟨Nat.zero_le _, Nat.le_refl _, Int.le_refl _, Int.le_refl _, rfl⟩
  (.of rfl rfl rfl rfl rfl ⟨⟨_, rfl, .refl _⟩, rfl, ⟨_, rfl, .refl _⟩, rfl, ⟨_, rfl, .refl _⟩, rfl, ⟨_, rfl, .refl _⟩, rfl, trivial⟩ ⟨⟨rfl, rfl, rfl⟩, trivial⟩) ?_
 rintro ⟨i, out, era⟩ ⟨hi, ho, he0, he1, hgo⟩
 simp only at hi ho he0 he1 hgo
 refine wc_of ?_;refine qR ?_;iterate 2 refine rC ?_
 refine rQ iE ?_;refine rC ?_;refine nS ?_
 refine wc_cond rfl (fun h2 => ?_) (fun h2 => ?_)
 ·have hlt : i < h.length := by have := of_decide_eq_true h2; omega
  obtain ⟨x, hx⟩ : ∃ u, h[i]? = some u := ⟨_, List.getElem?_eq_getElem hlt⟩
  have hx' : h[((i : Int)).toNat]? = some x := by rw [Int.toNat_natCast]; exact hx
  have hw22 : IntKind.i64.wrap (era + 1) = era + 1 := wrap_i64 (by omega) (by omega)
  obtain ⟨n, hn⟩ : ∃ n, h.length - i = n + 1 := ⟨h.length - i - 1, by omega⟩
  have hn' : h.length - (i + 1) = n := by omega
  rw [hn, opsRG, hx] at hgo
  simp only at hgo
  refine kS ?_;refine wc_seq ?_;refine wc_block ?_;refine qR ?_;iterate 2 refine rC ?_
  refine rQ (index_arr tab_ok rfl rfl rfl rfl rfl (by omega) hx') ?_;refine rC ?_;refine rQ iL ?_;refine rC ?_;refine nS ?_
  by_cases k3 : x.kind = 3
  ·have d3 : decide (x.kind = 3) = true := dT k3
   have d1 : (!decide (x.kind = 1)) = true := by rw [dF (by omega)]; rfl
   rw [if_pos k3] at hgo
   refine wT ?_;refine wc_region ?_;refine rC ?_;refine rQ (add_int (m := era + 1) tab_ok rfl rfl hw22) ?_;refine rC ?_;refine nQ ?_;refine sR ?_;iterate 2 refine rC ?_
   refine rQ (index_arr tab_ok rfl rfl rfl rfl rfl (by omega) hx') ?_;refine rC ?_;refine rQ iL ?_;refine rC ?_;refine nS ?_;refine wT ?_;refine wc_exit ?_;refine seq_x ?_
   refine blk_x ?_;refine seq_n ?_;refine wc_region ?_;refine rC ?_;refine rQ iD ?_;refine rC ?_;refine reg_nil ?_
   exact loop_n (i + 1, out, era + 1) [(65, some 65)] ⟨hlt, by simp only; omega, by simp only; omega, by simp only; omega, by simp only [hn']; exact hgo⟩ (by show h.length - (i + 1) < h.length - i; omega) (.of rfl rfl rfl rfl rfl ⟨⟨_, rfl, .refl _⟩, rfl, ⟨_, rfl, .refl _⟩, rfl, ⟨_, rfl, .refl _⟩, rfl, ⟨_, rfl, .refl _⟩, rfl, trivial⟩ ⟨⟨rfl, rfl, _, rfl, .refl _⟩, trivial⟩)
  ·have d3 : decide (x.kind = 3) = false := dF k3
   rw [if_neg k3] at hgo
   refine wF ?_;refine kS ?_;refine qR ?_;iterate 2 refine rC ?_
   refine rQ (index_arr tab_ok rfl rfl rfl rfl rfl (by omega) hx') ?_;refine rC ?_;refine rQ iL ?_;refine rC ?_;refine nS ?_
   by_cases k1 : x.kind = 1
   ·have d1 : (!decide (x.kind = 1)) = false := by rw [dT k1]; rfl
    rw [if_pos k1] at hgo
    refine wF ?_;refine kS ?_;refine wc_seq ?_;refine wc_draw (by kernel_rfl) ?_;refine dC [0] [] ?_;refine dC [5] [] ?_;refine dQ [29, 30] [] (index_arr tab_ok rfl rfl rfl rfl rfl (by omega) hx') ?_
    refine dC [31] [] ?_;refine dQ [32] [] iL ?_;refine dC [4] [] ?_;refine dC [0] [] ?_;refine dC [5] [] ?_;refine dQ [35, 36] [] (index_arr tab_ok rfl rfl rfl rfl rfl (by omega) hx') ?_
    refine dC [37] [] ?_;refine dQ [38] [] iL ?_;refine dC [5] [] ?_;refine dQ [33, 34, 39, 40] [] iS ?_;refine dreg_w [] [] rfl (step_C tab_ok (fun K hk => hk)) ?_
    refine dreg_s [6, 41] [304] (store_row tab_ok rfl rfl rfl ⟨_, ⟨rfl, rfl, rfl⟩, rfl⟩ rfl) ?_;refine dreg_end (by kernel_rfl) ?_;refine seq_n ?_;refine qR ?_;refine rC ?_
    refine nS ?_;refine wc_block ?_
    refine wc_inv (fun k : Nat => ⟨[(7, .int .i64 k), (6, .ptr 66 []), (5, .int .i64 i), (4, .int .i64 era), (3, .own 65 0 out.length 41 none), (0, .d (encH h))], [(65, some (opRow out)), (66, some (.box 54 (.d (encOpn (opBase x i era (cntC (out.take k) x.client))))))], 72, Tryz.f27.ntmps, 64⟩) (fun k => k ≤ out.length) (fun k => out.length - k) 0 [(65, some 65), (66, some _)] (Nat.zero_le _)
     (.of rfl rfl rfl rfl rfl ⟨⟨_, rfl, .refl _⟩, rfl, ⟨_, rfl, .refl _⟩, rfl, ⟨_, rfl, .refl _⟩, rfl, ⟨_, rfl, .refl _⟩, rfl, ⟨_, rfl, .refl _⟩, rfl, ⟨_, rfl, .refl _⟩, rfl, trivial⟩ ⟨⟨rfl, rfl, _, rfl, .refl _⟩, ⟨rfl, rfl, _, rfl, .refl _⟩, trivial⟩) ?_
    intro k hk
    refine wc_of ?_;refine qR ?_;iterate 2 refine rC ?_
    refine rQ (len_own tab_ok rfl rfl) ?_;refine rC ?_;refine nS ?_
    refine wc_cond rfl (fun h4 => ?_) (fun h4 => ?_)
    ·have hkl : k < out.length := by have := of_decide_eq_true h4; omega
     obtain ⟨q, hq⟩ : ∃ q, out[k]? = some q := ⟨_, List.getElem?_eq_getElem hkl⟩
     have hq' : out[((k : Int)).toNat]? = some q := by rw [Int.toNat_natCast]; exact hq
     have hcn := cntC_take x.client hq
     have hcl := cntC_le (out.take k) x.client
     rw [List.length_take] at hcl
     have hw58 : IntKind.i64.wrap (cntC (out.take k) x.client + 1) = cntC (out.take k) x.client + 1 := wrap_i64 (by omega) (by omega)
     refine kS ?_;refine wc_seq ?_;refine wc_block ?_;refine wc_seq ?_;refine wc_draw (by kernel_rfl) ?_;refine dC [3] [] ?_;refine dC [7] [] ?_;refine dQ [48, 49] [] (index_own tab_ok rfl rfl rfl rfl rfl (by omega) (by omega)) ?_
     refine dC [50] [] ?_;refine dQ [51] [65] (load_row tab_ok rfl rfl ⟨rfl, q, hq', _, rfl, rfl⟩ rfl) ?_;refine dC [6] [] ?_;refine dQ [53] [66] iB ?_;refine dC [52, 54] [] ?_
     refine dreg_end (by kernel_rfl) ?_;refine seq_n ?_
     by_cases kc : q.client = x.client
     ·have dc : decide (q.client = x.client) = true := dT kc
      rw [if_pos kc] at hcn
      refine wT ?_;refine wc_region ?_;refine rC ?_;refine rQ iB ?_;refine rQ (add_int tab_ok rfl rfl hw58) ?_;refine rC ?_;refine rX ?_;refine reg_nil ?_;refine blk_n ?_
      refine seq_n ?_;refine wc_region ?_;refine rC ?_;refine rQ iD ?_;refine rC ?_;refine reg_nil ?_
      exact loop_n (k + 1) [(65, some 65), (66, some 66)] hkl (by omega) (.of rfl rfl rfl rfl rfl ⟨⟨_, rfl, .refl _⟩, rfl, ⟨_, rfl, .refl _⟩, rfl, ⟨_, rfl, .refl _⟩, rfl, ⟨_, rfl, .refl _⟩, rfl, ⟨_, rfl, .refl _⟩, rfl, ⟨_, rfl, .refl _⟩, rfl, trivial⟩ ⟨⟨rfl, rfl, _, rfl, .refl _⟩, ⟨rfl, rfl, _, rfl, RowLe.of_eq (congrArg (fun n => Row.box 54 (.d (encOpn (opBase x i era n)))) hcn.symm)⟩, trivial⟩)
     ·have dc : decide (q.client = x.client) = false := dF kc
      rw [if_neg kc, Int.add_zero] at hcn
      refine wF ?_;refine wc_skip ?_;refine blk_n ?_;refine seq_n ?_;refine wc_region ?_;refine rC ?_;refine rQ iD ?_;refine rC ?_;refine reg_nil ?_
      exact loop_n (k + 1) [(65, some 65), (66, some 66)] hkl (by omega) (.of rfl rfl rfl rfl rfl ⟨⟨_, rfl, .refl _⟩, rfl, ⟨_, rfl, .refl _⟩, rfl, ⟨_, rfl, .refl _⟩, rfl, ⟨_, rfl, .refl _⟩, rfl, ⟨_, rfl, .refl _⟩, rfl, ⟨_, rfl, .refl _⟩, rfl, trivial⟩ ⟨⟨rfl, rfl, _, rfl, .refl _⟩, ⟨rfl, rfl, _, rfl, RowLe.of_eq (congrArg (fun n => Row.box 54 (.d (encOpn (opBase x i era n)))) hcn.symm)⟩, trivial⟩)
    ·have hke : k = out.length := by have := of_decide_eq_false h4; omega
     subst hke
     rw [List.take_length]
     refine wc_exit ?_;refine seq_x ?_;refine loop_x ?_;refine blk_x ?_;refine seq_n ?_;refine qR ?_;refine rC ?_;refine rQ iD ?_;refine rC ?_;refine nS ?_;refine wc_block ?_
     have hal : out.length + 1 ≤ 1048576 := by omega
     refine wc_inv (fun k : Nat => ⟨[(8, .int .i64 k), (6, .ptr 66 []), (5, .int .i64 i), (4, .int .i64 era), (3, .own 65 0 out.length 41 none), (0, .d (encH h))], [(65, some (opRow out)), (66, some (.box 54 (.d (encOpn (opBase x i era (cntC out x.client))))))], 72, Tryz.f27.ntmps, 64⟩) (fun k => k ≤ h.length ∧ retOf x.client (h.drop k) k = retOf x.client (h.drop (i + 1)) (i + 1)) (fun k => h.length - k) (i + 1) [(65, some 65), (66, some 66)] ⟨hlt, rfl⟩
      (.of rfl rfl rfl rfl rfl ⟨⟨_, rfl, .refl _⟩, rfl, ⟨_, rfl, .refl _⟩, rfl, ⟨_, rfl, .refl _⟩, rfl, ⟨_, rfl, .refl _⟩, rfl, ⟨_, rfl, .refl _⟩, rfl, ⟨_, rfl, .refl _⟩, rfl, trivial⟩ ⟨⟨rfl, rfl, _, rfl, .refl _⟩, ⟨rfl, rfl, _, rfl, .refl _⟩, trivial⟩) ?_
     rintro k ⟨hk2, hret⟩
     refine wc_of ?_;refine qR ?_;iterate 2 refine rC ?_
     refine rQ iE ?_;iterate 2 refine rC ?_
     by_cases hkl : k < h.length
     ·have d66 : decide ((k : Int) < (h.length : Int)) = true := dT (by omega)
      obtain ⟨y, hy⟩ : ∃ y, h[k]? = some y := ⟨_, List.getElem?_eq_getElem hkl⟩
      have hy' : h[((k : Int)).toNat]? = some y := by rw [Int.toNat_natCast]; exact hy
      have hst := retOf_step x.client hy
      rw [hret] at hst
      refine rO ?_;refine rC ?_;refine rO ?_;refine rC ?_;refine rO ?_;refine rQ (index_arr tab_ok rfl rfl rfl rfl rfl (by omega) hy') ?_;refine rO ?_;refine rC ?_;refine rO ?_
      refine rQ iL ?_;refine rO ?_;refine rC ?_;refine rQ iT ?_;refine nS ?_
      by_cases y3 : y.kind = 3
      ·have dy : (!decide (y.kind = 3)) = false := by rw [dT y3]; rfl
       rw [if_pos y3] at hst
       have hmk : mkOp h i x out era = opAns (opBase x i era (cntC out x.client)) none := by rw [mkOp, hst]
       rw [hmk] at hgo
       have hl1 : out.length + 1 = (out ++ [opAns (opBase x i era (cntC out x.client)) none]).length := by simp
       refine wF ?_;refine wc_exit ?_;refine seq_x ?_;refine loop_x ?_;refine blk_x ?_;refine seq_n ?_;refine wc_region ?_;refine rC ?_;refine rQ iM ?_;refine reg_new (build_slice (s := 41) tab_ok rfl rfl rfl rfl rfl rfl rfl rfl) rfl ?_
       refine reg_new2 (append_one (enc := encOpn) (s := 41) (xs := out) tab_ok (opAns (opBase x i era (cntC out x.client)) none) rfl rfl rfl rfl rfl rfl rfl rfl rfl hal rfl) rfl ?_
       refine rC ?_;refine reg_nil ?_;refine blk_n ?_;refine seq_n ?_;refine wc_region ?_;refine rC ?_;refine rQ iD ?_;refine rC ?_;refine reg_nil ?_
       exact loop_n (i + 1, out ++ [opAns (opBase x i era (cntC out x.client)) none], era) [(65, some _)] ⟨hlt, by simp; omega, by simp only; omega, by simp only; omega, by simp only [hn']; exact hgo⟩ (by show h.length - (i + 1) < h.length - i; omega) (.of rfl rfl rfl rfl rfl ⟨⟨_, rfl, .refl _⟩, rfl, ⟨_, rfl, .refl _⟩, rfl, ⟨_, rfl, AVLe.of_eq (congrArg (fun n => AV.own _ 0 n 41 none) hl1)⟩, rfl, ⟨_, rfl, .refl _⟩, rfl, trivial⟩ ⟨⟨rfl, rfl, _, rfl, .refl _⟩, trivial⟩)
      ·have dy : (!decide (y.kind = 3)) = true := by rw [dF y3]; rfl
       rw [if_neg y3] at hst
       refine wT ?_;refine kS ?_;refine wc_seq ?_;refine wc_block ?_;refine wc_seq ?_;refine wc_draw (by kernel_rfl) ?_;refine dC [0] [] ?_;refine dC [8] [] ?_;refine dQ [76, 77] [] (index_arr tab_ok rfl rfl rfl rfl rfl (by omega) hy') ?_
       refine dC [78] [] ?_;refine dQ [79] [] iL ?_;refine dC [6] [] ?_;refine dQ [81] [66] iB ?_;refine dC [80, 82] [] ?_;refine dreg_end (by kernel_rfl) ?_;refine seq_n ?_
       by_cases yc : y.client = x.client
       ·have dc : decide (y.client = x.client) = true := dT yc
        rw [if_pos yc] at hst
        have hmk : mkOp h i x out era = opAns (opBase x i era (cntC out x.client)) (some (k, y)) := by rw [mkOp, hst]
        rw [hmk] at hgo
        have hl1 : out.length + 1 = (out ++ [opAns (opBase x i era (cntC out x.client)) (some (k, y))]).length := by simp
        refine wT ?_;refine sR ?_;iterate 2 refine rC ?_
        refine rX ?_;refine nR ?_;iterate 2 refine rC ?_
        refine rQ (index_arr tab_ok rfl rfl rfl rfl rfl (by omega) hy') ?_;refine rC ?_;refine rQ iL ?_;refine rC ?_;refine rX ?_;refine nR ?_;iterate 2 refine rC ?_
        refine rQ (index_arr tab_ok rfl rfl rfl rfl rfl (by omega) hy') ?_;refine rC ?_;refine rQ iL ?_;refine rC ?_;refine rX ?_;refine nS ?_;refine wc_exit ?_;refine blk_y rfl ?_
        refine seq_x ?_;refine loop_x ?_;refine blk_x ?_;refine seq_n ?_;refine wc_region ?_;refine rC ?_;refine rQ iM ?_;refine reg_new (build_slice (s := 41) tab_ok rfl rfl rfl rfl rfl rfl rfl rfl) rfl ?_
        refine reg_new2 (append_one (enc := encOpn) (s := 41) (xs := out) tab_ok (opAns (opBase x i era (cntC out x.client)) (some (k, y))) rfl rfl rfl rfl rfl rfl rfl rfl rfl hal rfl) rfl ?_
        refine rC ?_;refine reg_nil ?_;refine blk_n ?_;refine seq_n ?_;refine wc_region ?_;refine rC ?_;refine rQ iD ?_;refine rC ?_;refine reg_nil ?_
        exact loop_n (i + 1, out ++ [opAns (opBase x i era (cntC out x.client)) (some (k, y))], era) [(65, some _)] ⟨hlt, by simp; omega, by simp only; omega, by simp only; omega, by simp only [hn']; exact hgo⟩ (by show h.length - (i + 1) < h.length - i; omega) (.of rfl rfl rfl rfl rfl ⟨⟨_, rfl, .refl _⟩, rfl, ⟨_, rfl, .refl _⟩, rfl, ⟨_, rfl, AVLe.of_eq (congrArg (fun n => AV.own _ 0 n 41 none) hl1)⟩, rfl, ⟨_, rfl, .refl _⟩, rfl, trivial⟩ ⟨⟨rfl, rfl, _, rfl, .refl _⟩, trivial⟩)
       ·have dc : decide (y.client = x.client) = false := dF yc
        rw [if_neg yc] at hst
        refine wF ?_;refine wc_skip ?_;refine blk_n ?_;refine seq_n ?_;refine wc_region ?_;refine rC ?_;refine rQ iD ?_;refine rC ?_;refine reg_nil ?_
        exact loop_n (k + 1) [(65, some 65), (66, some 66)] ⟨hkl, hst.symm⟩ (by omega) (.of rfl rfl rfl rfl rfl ⟨⟨_, rfl, .refl _⟩, rfl, ⟨_, rfl, .refl _⟩, rfl, ⟨_, rfl, .refl _⟩, rfl, ⟨_, rfl, .refl _⟩, rfl, ⟨_, rfl, .refl _⟩, rfl, ⟨_, rfl, .refl _⟩, rfl, trivial⟩ ⟨⟨rfl, rfl, _, rfl, .refl _⟩, ⟨rfl, rfl, _, rfl, .refl _⟩, trivial⟩)
     ·have d66 : decide ((k : Int) < (h.length : Int)) = false := dF (by omega)
      have hst : retOf x.client (h.drop (i + 1)) (i + 1) = none := by rw [← hret, List.drop_eq_nil_of_le (by omega)]; rfl
      have hmk : mkOp h i x out era = opAns (opBase x i era (cntC out x.client)) none := by rw [mkOp, hst]
      rw [hmk] at hgo
      have hl1 : out.length + 1 = (out ++ [opAns (opBase x i era (cntC out x.client)) none]).length := by simp
      iterate 6 refine rS ?_
      refine rQ iF ?_;refine nS ?_;refine wG ?_;refine wc_exit ?_;refine seq_x ?_;refine loop_x ?_;refine blk_x ?_;refine seq_n ?_;refine wc_region ?_;refine rC ?_;refine rQ iM ?_
      refine reg_new (build_slice (s := 41) tab_ok rfl rfl rfl rfl rfl rfl rfl rfl) rfl ?_;refine reg_new2 (append_one (enc := encOpn) (s := 41) (xs := out) tab_ok (opAns (opBase x i era (cntC out x.client)) none) rfl rfl rfl rfl rfl rfl rfl rfl rfl hal rfl) rfl ?_
      refine rC ?_;refine reg_nil ?_;refine blk_n ?_;refine seq_n ?_;refine wc_region ?_;refine rC ?_;refine rQ iD ?_;refine rC ?_;refine reg_nil ?_
      exact loop_n (i + 1, out ++ [opAns (opBase x i era (cntC out x.client)) none], era) [(65, some _)] ⟨hlt, by simp; omega, by simp only; omega, by simp only; omega, by simp only [hn']; exact hgo⟩ (by show h.length - (i + 1) < h.length - i; omega) (.of rfl rfl rfl rfl rfl ⟨⟨_, rfl, .refl _⟩, rfl, ⟨_, rfl, .refl _⟩, rfl, ⟨_, rfl, AVLe.of_eq (congrArg (fun n => AV.own _ 0 n 41 none) hl1)⟩, rfl, ⟨_, rfl, .refl _⟩, rfl, trivial⟩ ⟨⟨rfl, rfl, _, rfl, .refl _⟩, trivial⟩)
   ·have d1 : (!decide (x.kind = 1)) = true := by rw [dF k1]; rfl
    rw [if_neg k1] at hgo
    refine wT ?_;refine wc_exit ?_;refine seq_x ?_;refine blk_x ?_;refine seq_n ?_;refine wc_region ?_;refine rC ?_;refine rQ iD ?_;refine rC ?_;refine reg_nil ?_
    exact loop_n (i + 1, out, era) [(65, some 65)] ⟨hlt, by simp only; omega, by simp only; omega, by simp only; omega, by simp only [hn']; exact hgo⟩ (by show h.length - (i + 1) < h.length - i; omega) (.of rfl rfl rfl rfl rfl ⟨⟨_, rfl, .refl _⟩, rfl, ⟨_, rfl, .refl _⟩, rfl, ⟨_, rfl, .refl _⟩, rfl, ⟨_, rfl, .refl _⟩, rfl, trivial⟩ ⟨⟨rfl, rfl, _, rfl, .refl _⟩, trivial⟩)
 ·have hi2 : i = h.length := by have := of_decide_eq_false h2; omega
  subst hi2
  rw [Nat.sub_self] at hgo
  rw [← hgo]
  refine wc_exit ?_;refine seq_x ?_;refine loop_x ?_;refine blk_x ?_;refine seq_n ?_;refine sR ?_;iterate 2 refine rC ?_
  refine nS ?_;refine wc_ret ?_
  exact ⟨trivial, [(64, some _)], .of rfl rfl rfl rfl rfl ⟨⟨_, rfl, AVLe.of_eq rfl⟩, rfl, trivial⟩ ⟨⟨rfl, rfl, _, rfl, .refl _⟩, trivial⟩⟩
theorem rops_is (h : List HEv) (hL : h.length ≤ 1000000) : FnIs Tryz.prog 27 [.d (encH h)] [] (.d (encOps (opsR h))) [] := (rops_own h hL).freeze_out 64 _ rfl (Frz.own rfl) trivial
def blkB (d : UInt8) : UInt8 := (d.toNat % 4).toUInt8
structure XE where
 who : UInt8
 what : UInt8
 data : UInt8
def encXE (x : XE) : D := .cons (u8s x.who.toNat) (.cons (u8s x.what.toNat) (.cons (u8s x.data.toNat) .nil))
def opX (x : XE) : POp :=
 if x.what.toNat % 8 < 3 then ⟨1, ((x.data.toNat / 4 % 3 : Nat) : Int), []⟩
 else if x.what.toNat % 8 < 6 then ⟨2, ((x.data.toNat / 4 % 3 : Nat) : Int), List.replicate 32 (blkB x.data)⟩
 else if x.what.toNat % 8 = 6 then ⟨3, 0, []⟩
 else qOf ⟨8, x.data, x.what⟩
def encXH (l : List XE) : D := .cons (.arr 3 encXE l) .nil
def errs8 : List Int := [0, 0, 0, 0, 0, 1, 8, 9]
def errX (y : HEv) (x : XE) : Int := if badO y.op 3 && decide (x.what.toNat < 200) then 1 else errs8[x.what.toNat % 8]?.getD 0
def stepX (out : List HEv) (x : XE) : List HEv :=
 if x.who.toNat % 4 = 3 ∧ x.what.toNat ≤ 20 then out ++ [⟨3, 0, zOp, zBk, 0⟩]
 else if pend out ((x.who.toNat % 4 % 3 : Nat) : Int) < 0 then out ++ [⟨1, ((x.who.toNat % 4 % 3 : Nat) : Int), opX x, zBk, 0⟩]
 else match out[(pend out ((x.who.toNat % 4 % 3 : Nat) : Int)).toNat]? with
  | none => out
  | some y => out ++ [⟨2, ((x.who.toNat % 4 % 3 : Nat) : Int), zOp, if y.op.kind = 1 ∧ errX y x = 0 then List.replicate 32 (blkB x.data) else zBk, errX y x⟩]
def hOf (l : List XE) : List HEv := (l.take 24).foldl stepX []
theorem zev_le (k c e : Int) : DLe (.cons (u8s k) (.cons (i6 c) (.cons zPOp (.cons (.vec 32 1 encU8 (List.replicate 32 0)) (.cons (i6 e) .nil))))) (encEv ⟨k, c, zOp, zBk, e⟩) := by
 rintro w X cs ⟨c1, r1, rfl, h1, c2, r2, rfl, h2, c3, r3, rfl, h3, h4⟩
 exact ⟨c1, _, rfl, h1, c2, _, rfl, h2, c3, _, rfl, zop_le _ _ _ h3, h4⟩
theorem byI_pairs : ∀ (l : List UInt8), ∃ t : List UInt8, byI t = pairsV l
 | [] => ⟨[], rfl⟩
 | [a] => ⟨[(nibV a).toUInt8], by
  have := nibV_lt a
  simp only [byI, pairsV, List.map_cons, List.map_nil, Nat.toUInt8_eq, UInt8.toNat_ofNat']
  rw [Nat.mod_eq_of_lt (by omega)]⟩
 | a :: b :: l => by
  obtain ⟨t, ht⟩ := byI_pairs l
  have h1 := nibV_lt a
  have h2 := nibV_lt b
  refine ⟨(nibV a * 16 + nibV b).toUInt8 :: t, ?_⟩
  rw [pairsV, ← ht]
  simp only [byI, List.map_cons, Nat.toUInt8_eq, UInt8.toNat_ofNat']
  rw [Nat.mod_eq_of_lt (by omega)]
theorem byI_uX (m : Nat) (s : List UInt8) (i : Nat) : ∃ t : List UInt8, byI t = uX m s i := by
 obtain ⟨t, ht⟩ := byI_pairs (s.take i)
 refine ⟨t ++ List.replicate (m - (i + 1) / 2) 0, ?_⟩
 rw [uX, ← ht]
 simp [byI]
abbrev blkR (v : List UInt8) (b : Bool) : AV := .tup (.acons (.d (encBk v)) (.acons (.bool b) .anil))
theorem block_short (s : List UInt8) (hs : s.length ≠ 64) (hL : s.length ≤ 9223372036854775807) : FnIs Tryz.prog 119 [.d (strD s)] [] (blkR zBk false) [] := by
 have h0 : (!decide ((s.length : Int) = 64)) = true := by rw [dF (by omega)]; rfl
 refine fnIs_of tab_ok Tryz.func119 rfl rfl rfl ?_;refine sR ?_;refine rN ?_;refine rC ?_;refine nQ ?_;refine sR ?_;refine rC ?_;refine rQ (len_s tab_ok rfl rfl) ?_
 refine rC ?_;refine nS ?_;refine wT ?_;refine sR ?_;refine rQ iM ?_;refine rW ?_;refine rC ?_;refine nS ?_;refine wc_ret ?_;refine seq_r ?_
 exact ⟨trivial, _, rfl, [], lf⟩
theorem block_ok (s : List UInt8) (hs : s.length = 2 * 32) (hall : ∀ c ∈ s, 0 ≤ Lib.indexByte hexD c) (t : List UInt8) (ht : byI t = pairsV s) : FnIs Tryz.prog 119 [.d (strD s)] [] (blkR t true) [] := by
 have h0 : (!decide ((s.length : Int) = 64)) = false := by rw [dT (by omega)]; rfl
 refine fnIs_of tab_ok Tryz.func119 rfl rfl rfl ?_;refine sR ?_;refine rN ?_;refine rC ?_;refine nQ ?_;refine sR ?_;refine rC ?_;refine rQ (len_s tab_ok rfl rfl) ?_
 refine rC ?_;refine nS ?_;refine wF ?_;refine kS ?_;refine qR ?_;refine rC ?_;refine reg_new (range_str tab_ok rfl rfl) rfl ?_;refine nS ?_;refine wc_block ?_
 refine wc_inv (fun i : Nat => ⟨[(11, .ptr 66 []), (2, .ptr 65 []), (0, .d (strD s))], [(65, some (.box 52 (.d (.vec 32 1 encU8 (uX 32 s i))))), (66, some (.si (mkS s) i))], 72, Tryz.f119.ntmps, 64⟩) (fun i => i ≤ s.length) (fun i => s.length - i) 0 [(65, some 64), (66, some 112)] (Nat.zero_le _)
  (.of rfl rfl rfl rfl rfl ⟨⟨_, rfl, .refl _⟩, rfl, ⟨_, rfl, .refl _⟩, rfl, ⟨_, rfl, .refl _⟩, rfl, trivial⟩ ⟨⟨rfl, rfl, _, rfl, RowLe.of_eq (by rw [uX_zero]; rfl)⟩, ⟨rfl, rfl, _, rfl, .refl _⟩, trivial⟩) ?_
 intro i hi
 refine wc_of ?_
 by_cases hlt : i < s.length
 ·obtain ⟨c, hc⟩ : ∃ c, s[i]? = some c := ⟨_, List.getElem?_eq_getElem hlt⟩
  have hib : FnIs Tryz.prog 143 [.d (strD hexD), .int .u8 c.toNat] [] (.int .i64 (Lib.indexByte hexD c)) [] := by
   have := ib_is (l := hexD) (c := (c.toNat : Int))
   rwa [show ((c.toNat : Int)).toNat.toUInt8 = c by simp] at this
  have hneg : ¬ Lib.indexByte hexD c < 0 := by have := hall c (List.mem_of_getElem? hc); omega
  have hd : decide (Lib.indexByte hexD c < 0) = false := dF hneg
  obtain ⟨x, hx1, hx2, hx3⟩ := uX_step hc hs
  replace hx2 : (uX 32 s i)[(((i / 2 : Nat) : Int)).toNat]? = some (x : Int) := by rw [Int.toNat_natCast]; exact hx2
  have hn16 := nibV_lt c
  have hwi : IntKind.i64.wrap ((i / 2 : Nat) : Int) = ((i / 2 : Nat) : Int) := wrap_i64 (by omega) (by omega)
  have hw1 : IntKind.u8.wrap ((x : Int) * 16) = ((x * 16 : Nat) : Int) := wrap_u8n (a := x * 16) (by omega)
  have hw2 : IntKind.u8.wrap (Lib.indexByte hexD c) = (nibV c : Int) := by
   rw [show Lib.indexByte hexD c = (nibV c : Int) by unfold nibV; omega]
   exact wrap_u8n (by omega)
  have hw3 : IntKind.u8.wrap (((x * 16 : Nat) : Int) + (nibV c : Int)) = ((x * 16 + nibV c : Nat) : Int) := wrap_u8n (a := x * 16 + nibV c) (by omega)
  have hlow := decode_low (i := i) hc (hexD_low (by omega))
  refine sR ?_;refine reg_new (next_str rfl rfl (by omega)) rfl ?_;refine rC ?_;refine nQ ?_;refine wV ?_;refine kS ?_;refine wc_block ?_;refine sR ?_;iterate 2 refine rC ?_
  refine nR ?_;iterate 2 refine rC ?_
  refine rQ (index_s (l := s) (m := i) tab_ok rfl rfl rfl hc) ?_;refine rQ (call_r hib rfl rfl (arg_e (arg_e arg_nil)) (.inl rfl) (fun _ => rfl)) ?_;refine rC ?_;refine nQ ?_
  refine sR ?_;iterate 2 refine rC ?_
  refine nS ?_;refine wF ?_;refine kS ?_;refine wc_region ?_;refine rC ?_;refine rQ (quo_nat (a := i) (b := 2) tab_ok rfl rfl rfl (by decide) hwi) ?_;refine rC ?_
  refine rQ (quo_nat (a := i) (b := 2) tab_ok rfl rfl rfl (by decide) hwi) ?_;refine rQ (step_C tab_ok (fun K hk => ⟨by omega, by omega, hk⟩)) ?_;refine rQ (load_box tab_ok rfl rfl ⟨_, ⟨rfl, _, hx2, rfl⟩, rfl⟩ rfl) ?_
  refine rQ (mul_int (m := ((x * 16 : Nat) : Int)) tab_ok rfl rfl hw1) ?_;refine rC ?_;refine rQ (conv_int (m := (nibV c : Int)) tab_ok rfl rfl rfl hw2) ?_;refine rQ (add_int (m := ((x * 16 + nibV c : Nat) : Int)) tab_ok rfl rfl hw3) ?_
  refine rQ (step_C tab_ok (fun K hk => ⟨by omega, by omega, hk⟩)) ?_;refine reg_store (store_row tab_ok rfl rfl rfl ⟨_, ⟨_, ⟨rfl, (x : Int), ((x * 16 + nibV c : Nat) : Int), hx2, ⟨rfl, rfl, rfl⟩, rfl⟩, rfl⟩, rfl⟩ rfl) ?_
  refine reg_nil ?_;refine blk_n ?_
  exact loop_n (i + 1) [] hlt (by omega) (.of rfl rfl rfl rfl rfl ⟨⟨_, rfl, .refl _⟩, rfl, ⟨_, rfl, .refl _⟩, rfl, ⟨_, rfl, .refl _⟩, rfl, trivial⟩ ⟨⟨rfl, rfl, _, rfl, RowLe.of_eq (congrArg (fun l => Row.box 52 (.d (.vec 32 1 encU8 l))) hx3)⟩, ⟨rfl, rfl, _, rfl, RowLe.of_eq (by rw [hlow]; rfl)⟩, trivial⟩)
 ·have he : i = s.length := by omega
  subst he
  have hE : uX 32 s s.length = byI t := by
   rw [uX, List.take_length, ht, show 32 - (s.length + 1) / 2 = 0 by omega]; simp
  rw [hE]
  refine sR ?_;refine rQ (next_end rfl rfl (by omega)) ?_;refine rC ?_;refine nQ ?_;refine wG ?_;refine wc_exit ?_;refine seq_x ?_;refine loop_x ?_;refine blk_x ?_
  refine seq_n ?_;refine sR ?_;refine rQ iM ?_;refine rW ?_;refine rC ?_;refine nS ?_;refine wc_ret ?_
  exact ⟨trivial, _, rfl, [], lf⟩
theorem first_bad (s : List UInt8) (h : ¬ ∀ c ∈ s, 0 ≤ Lib.indexByte hexD c) : ∃ (j : Nat) (c : UInt8), s[j]? = some c ∧ Lib.indexByte hexD c < 0 ∧ ∀ i, i < j → ∀ b, s[i]? = some b → 0 ≤ Lib.indexByte hexD b := by
 induction s with
 | nil => exact absurd (fun c hc => by cases hc) h
 | cons a s ih =>
  by_cases ha : Lib.indexByte hexD a < 0
  ·exact ⟨0, a, rfl, ha, fun i hi => absurd hi (Nat.not_lt_zero _)⟩
  ·have hs : ¬ ∀ c ∈ s, 0 ≤ Lib.indexByte hexD c := fun hs => h fun c hc => by
    rcases List.mem_cons.1 hc with rfl | hc
    ·omega
    ·exact hs c hc
   obtain ⟨j, c, h1, h2, h3⟩ := ih hs
   refine ⟨j + 1, c, by simpa using h1, h2, fun i hi b hb => ?_⟩
   cases i with
   | zero => simp at hb; subst hb; omega
   | succ i => exact h3 i (by omega) b (by simpa using hb)
theorem block_bad (s : List UInt8) (hs : s.length = 2 * 32) (j : Nat) (cj : UInt8) (hj : s[j]? = some cj) (hcj : Lib.indexByte hexD cj < 0) (hbef : ∀ i, i < j → ∀ b, s[i]? = some b → 0 ≤ Lib.indexByte hexD b) (t : List UInt8) (ht : byI t = uX 32 s j) : FnIs Tryz.prog 119 [.d (strD s)] [] (blkR t false) [] := by
 have h0 : (!decide ((s.length : Int) = 64)) = false := by rw [dT (by omega)]; rfl
 have hjl := (List.getElem?_eq_some_iff.1 hj).1
 refine fnIs_of tab_ok Tryz.func119 rfl rfl rfl ?_;refine sR ?_;refine rN ?_;refine rC ?_;refine nQ ?_;refine sR ?_;refine rC ?_;refine rQ (len_s tab_ok rfl rfl) ?_
 refine rC ?_;refine nS ?_;refine wF ?_;refine kS ?_;refine qR ?_;refine rC ?_;refine reg_new (range_str tab_ok rfl rfl) rfl ?_;refine nS ?_;refine wc_block ?_
 refine wc_inv (fun i : Nat => ⟨[(11, .ptr 66 []), (2, .ptr 65 []), (0, .d (strD s))], [(65, some (.box 52 (.d (.vec 32 1 encU8 (uX 32 s i))))), (66, some (.si (mkS s) i))], 72, Tryz.f119.ntmps, 64⟩) (fun i => i ≤ j) (fun i => s.length - i) 0 [(65, some 64), (66, some 112)] (Nat.zero_le _)
  (.of rfl rfl rfl rfl rfl ⟨⟨_, rfl, .refl _⟩, rfl, ⟨_, rfl, .refl _⟩, rfl, ⟨_, rfl, .refl _⟩, rfl, trivial⟩ ⟨⟨rfl, rfl, _, rfl, RowLe.of_eq (by rw [uX_zero]; rfl)⟩, ⟨rfl, rfl, _, rfl, .refl _⟩, trivial⟩) ?_
 intro i hi
 refine wc_of ?_
 have hlt : i < s.length := by omega
 by_cases hij : i < j
 ·obtain ⟨c, hc⟩ : ∃ c, s[i]? = some c := ⟨_, List.getElem?_eq_getElem hlt⟩
  have hib : FnIs Tryz.prog 143 [.d (strD hexD), .int .u8 c.toNat] [] (.int .i64 (Lib.indexByte hexD c)) [] := by
   have := ib_is (l := hexD) (c := (c.toNat : Int))
   rwa [show ((c.toNat : Int)).toNat.toUInt8 = c by simp] at this
  have hneg : ¬ Lib.indexByte hexD c < 0 := by have := hbef i hij c hc; omega
  have hd : decide (Lib.indexByte hexD c < 0) = false := dF hneg
  obtain ⟨x, hx1, hx2, hx3⟩ := uX_step hc hs
  replace hx2 : (uX 32 s i)[(((i / 2 : Nat) : Int)).toNat]? = some (x : Int) := by rw [Int.toNat_natCast]; exact hx2
  have hn16 := nibV_lt c
  have hwi : IntKind.i64.wrap ((i / 2 : Nat) : Int) = ((i / 2 : Nat) : Int) := wrap_i64 (by omega) (by omega)
  have hw1 : IntKind.u8.wrap ((x : Int) * 16) = ((x * 16 : Nat) : Int) := wrap_u8n (a := x * 16) (by omega)
  have hw2 : IntKind.u8.wrap (Lib.indexByte hexD c) = (nibV c : Int) := by
   rw [show Lib.indexByte hexD c = (nibV c : Int) by unfold nibV; omega]
   exact wrap_u8n (by omega)
  have hw3 : IntKind.u8.wrap (((x * 16 : Nat) : Int) + (nibV c : Int)) = ((x * 16 + nibV c : Nat) : Int) := wrap_u8n (a := x * 16 + nibV c) (by omega)
  have hlow := decode_low (i := i) hc (hexD_low (by omega))
  refine sR ?_;refine reg_new (next_str rfl rfl (by omega)) rfl ?_;refine rC ?_;refine nQ ?_;refine wV ?_;refine kS ?_;refine wc_block ?_;refine sR ?_;iterate 2 refine rC ?_
  refine nR ?_;iterate 2 refine rC ?_
  refine rQ (index_s (l := s) (m := i) tab_ok rfl rfl rfl hc) ?_;refine rQ (call_r hib rfl rfl (arg_e (arg_e arg_nil)) (.inl rfl) (fun _ => rfl)) ?_;refine rC ?_;refine nQ ?_
  refine sR ?_;iterate 2 refine rC ?_
  refine nS ?_;refine wF ?_;refine kS ?_;refine wc_region ?_;refine rC ?_;refine rQ (quo_nat (a := i) (b := 2) tab_ok rfl rfl rfl (by decide) hwi) ?_;refine rC ?_
  refine rQ (quo_nat (a := i) (b := 2) tab_ok rfl rfl rfl (by decide) hwi) ?_;refine rQ (step_C tab_ok (fun K hk => ⟨by omega, by omega, hk⟩)) ?_;refine rQ (load_box tab_ok rfl rfl ⟨_, ⟨rfl, _, hx2, rfl⟩, rfl⟩ rfl) ?_
  refine rQ (mul_int (m := ((x * 16 : Nat) : Int)) tab_ok rfl rfl hw1) ?_;refine rC ?_;refine rQ (conv_int (m := (nibV c : Int)) tab_ok rfl rfl rfl hw2) ?_;refine rQ (add_int (m := ((x * 16 + nibV c : Nat) : Int)) tab_ok rfl rfl hw3) ?_
  refine rQ (step_C tab_ok (fun K hk => ⟨by omega, by omega, hk⟩)) ?_;refine reg_store (store_row tab_ok rfl rfl rfl ⟨_, ⟨_, ⟨rfl, (x : Int), ((x * 16 + nibV c : Nat) : Int), hx2, ⟨rfl, rfl, rfl⟩, rfl⟩, rfl⟩, rfl⟩ rfl) ?_
  refine reg_nil ?_;refine blk_n ?_
  exact loop_n (i + 1) [] hij (by omega) (.of rfl rfl rfl rfl rfl ⟨⟨_, rfl, .refl _⟩, rfl, ⟨_, rfl, .refl _⟩, rfl, ⟨_, rfl, .refl _⟩, rfl, trivial⟩ ⟨⟨rfl, rfl, _, rfl, RowLe.of_eq (congrArg (fun l => Row.box 52 (.d (.vec 32 1 encU8 l))) hx3)⟩, ⟨rfl, rfl, _, rfl, RowLe.of_eq (by rw [hlow]; rfl)⟩, trivial⟩)
 ·have he : i = j := by omega
  subst he
  have hc := hj
  obtain ⟨c, rfl⟩ : ∃ c, cj = c := ⟨_, rfl⟩
  have hib : FnIs Tryz.prog 143 [.d (strD hexD), .int .u8 cj.toNat] [] (.int .i64 (Lib.indexByte hexD cj)) [] := by
   have := ib_is (l := hexD) (c := (cj.toNat : Int))
   rwa [show ((cj.toNat : Int)).toNat.toUInt8 = cj by simp] at this
  have hd : decide (Lib.indexByte hexD cj < 0) = true := dT hcj
  rw [← ht]
  refine sR ?_;refine reg_new (next_str rfl rfl (by omega)) rfl ?_;refine rC ?_;refine nQ ?_;refine wV ?_;refine kS ?_;refine wc_block ?_;refine sR ?_;iterate 2 refine rC ?_
  refine nR ?_;iterate 2 refine rC ?_
  refine rQ (index_s (l := s) (m := i) tab_ok rfl rfl rfl hc) ?_;refine rQ (call_r hib rfl rfl (arg_e (arg_e arg_nil)) (.inl rfl) (fun _ => rfl)) ?_;refine rC ?_;refine nQ ?_
  refine sR ?_;iterate 2 refine rC ?_
  refine nS ?_;refine wT ?_;refine sR ?_;refine rQ iM ?_;refine rW ?_;refine rC ?_;refine nS ?_;refine wc_ret ?_;refine seq_r ?_;refine blk_r ?_;refine loop_r ?_;refine blk_r ?_
  refine seq_r ?_
  exact ⟨trivial, _, rfl, [], lf⟩
theorem block_none (s : List UInt8) (h : blockP s = none) (hL : s.length ≤ 9223372036854775807) : ∃ v : List UInt8, FnIs Tryz.prog 119 [.d (strD s)] [] (blkR v false) [] := by
 by_cases hs : s.length = 64
 ·by_cases hall : ∀ c ∈ s, 0 ≤ Lib.indexByte hexD c
  ·obtain ⟨t, h1, h2⟩ := pairs_some s (by omega) hall
   rw [blockP, if_pos hs, h1] at h
   cases h
  ·obtain ⟨j, c, h1, h2, h3⟩ := first_bad s hall
   obtain ⟨t, ht⟩ := byI_uX 32 s j
   exact ⟨t, block_bad s hs j c h1 h2 h3 t ht⟩
 ·exact ⟨zBk, block_short s hs hL⟩
theorem block_some (s t : List UInt8) (h : blockP s = some t) : FnIs Tryz.prog 119 [.d (strD s)] [] (blkR t true) [] := by
 unfold blockP at h
 split at h
 ·rename_i hs
  have hall : ∀ c ∈ s, 0 ≤ Lib.indexByte hexD c := fun c hc => by
   by_cases hn : Lib.indexByte hexD c < 0
   ·rw [pairs_bad s c hc hn] at h; cases h
   ·omega
  obtain ⟨t', h1, h2⟩ := pairs_some s (by omega) hall
  rw [h1] at h
  cases h
  exact block_ok s hs hall _ h2
 ·cases h
def textE (h : List HEv) : List UInt8 := h.flatMap fun x => lineE x ++ [10]
theorem textE_take {h : List HEv} {i : Nat} {x : HEv} (hx : h[i]? = some x) : textE (h.take (i + 1)) = textE (h.take i) ++ (lineE x ++ [10]) := by
 rw [List.take_add_one, hx]; simp [textE]
theorem textE_le (h : List HEv) (i : Nat) : (textE (h.take i)).length ≤ (textE h).length := by
 have := congrArg (fun l => (textE l).length) (List.take_append_drop i h)
 simp only [textE, List.flatMap_append, List.length_append] at this
 unfold textE
 omega
theorem htext_some (h : List HEv) (hne : h ≠ []) (hL : h.length ≤ 1000000) (hc0 : (chkH h).2 = 0) (hok : ∀ x ∈ h, x.Ok ∧ x.op.data.length ≤ 64) (hT : (textE h).length ≤ 1048576) : FnIs Tryz.prog 24 [.d (encH h)] [] (.tup (.acons (.d (strD (textE h))) (.acons (.d (i6 0)) .anil))) [] := by
 have hh : h.length ≤ 9223372036854775807 := by omega
 have d0 : (!decide ((chkH h).2 = 0)) = false := by rw [dT hc0]; rfl
 refine fnIs_of tab_ok Tryz.func24 rfl rfl rfl ?_;refine sR ?_;iterate 2 refine rC ?_
 refine nQ ?_;refine sR ?_;refine rC ?_;refine rQ (call_r (hcheck_is h hh) rfl rfl (arg_e arg_nil) (.inl rfl) (fun _ => rfl)) ?_;iterate 5 refine rC ?_
 refine nR ?_;iterate 2 refine rC ?_
 refine nS ?_;refine wF ?_;refine kS ?_;refine sR ?_;refine rN ?_;refine nQ ?_;refine sR ?_;refine rC ?_;refine rQ iE ?_;refine rC ?_;refine nS ?_;refine wc_block ?_
 refine wc_inv (fun i : Nat => ⟨[(19, .int .i64 i), (18, .int .i64 h.length), (17, .d (encH h)), (6, .ptr 65 [])], [(65, some (bldRow (Nat.beq i 0) 65 66 (textE (h.take i)).length)), (66, some (rowT (textE (h.take i))))], 72, Tryz.f24.ntmps, 64⟩) (fun i => i ≤ h.length) (fun i => h.length - i) 0 [(65, some _), (66, none)] (Nat.zero_le _)
  (.of rfl rfl rfl rfl rfl ⟨⟨_, rfl, .refl _⟩, rfl, ⟨_, rfl, .refl _⟩, rfl, ⟨_, rfl, .refl _⟩, rfl, ⟨_, rfl, .refl _⟩, rfl, trivial⟩ ⟨⟨rfl, rfl, _, rfl, RowLe.split2⟩, ⟨rfl, rfl, rfl⟩, trivial⟩) ?_
 intro i hi
 refine wc_of ?_;refine sR ?_;refine rC ?_;refine nQ ?_
 refine wc_cond rfl (fun h3 => ?_) (fun h3 => ?_)
 ·have hlt : i < h.length := by have := of_decide_eq_true h3; omega
  obtain ⟨x, hx⟩ : ∃ x, h[i]? = some x := ⟨_, List.getElem?_eq_getElem hlt⟩
  have hx' : h[((i : Int)).toNat]? = some x := by rw [Int.toNat_natCast]; exact hx
  obtain ⟨hokx, hdx⟩ := hok x (List.mem_of_getElem? hx)
  have hs0 : 0 < (lineE x ++ [10]).length := by simp
  have hgo := textE_take hx
  have hle := textE_le h (i + 1)
  rw [hgo, List.length_append] at hle
  have hp1 : (textE (h.take i)).length + (lineE x ++ [10]).length ≤ 1048576 := by omega
  have hll : (lineE x).length + 1 ≤ 1048576 := by rw [List.length_append] at hp1; simp at hp1; omega
  have hl2 : (textE (h.take i)).length + (lineE x ++ [10]).length = (textE (h.take (i + 1))).length := by rw [hgo]; simp only [List.length_append]
  refine kS ?_;refine wc_seq ?_;refine wc_block ?_;refine sR ?_;refine rQ (index_arr tab_ok rfl rfl rfl rfl rfl (by omega) hx') ?_;refine rQ iL ?_;refine rN ?_;refine rW ?_
  refine nS ?_;refine wc_region ?_;refine rQ iM ?_;refine rQ (call_r (hline_is x hokx hdx) rfl rfl (arg_e arg_nil) (.inl rfl) (fun _ => rfl)) ?_
  refine rQ (add_str (a := lineE x) (b := [10]) rfl rfl (by simp; omega) rfl) ?_
  refine reg_do rfl (call_h [(0, some 65), (1, some 66)] (writestr_is (Nat.beq i 0) (textE (h.take i)) (lineE x ++ [10]) (textE (h.take i)).length rfl hs0 hp1) rfl rfl rfl (arg_ptr rfl rfl (arg_e arg_nil)) ⟨⟨rfl, (by cases Nat.beq i 0 <;> rfl), _, _, rfl, rfl, (by cases Nat.beq i 0 <;> exact .refl _)⟩, ⟨rfl, rfl, _, _, rfl, rfl, .refl _⟩, trivial⟩ rfl rfl (.inl rfl) rfl rfl) rfl rfl ?_
  refine reg_nil ?_;refine blk_n ?_;refine seq_n ?_;refine wc_region ?_;refine rQ iD ?_;refine rC ?_;refine reg_nil ?_
  exact loop_n (i + 1) [(66, some _)] hlt (by omega) (.of rfl rfl rfl rfl rfl ⟨⟨_, rfl, .refl _⟩, rfl, ⟨_, rfl, .refl _⟩, rfl, ⟨_, rfl, .refl _⟩, rfl, ⟨_, rfl, .refl _⟩, rfl, trivial⟩ ⟨⟨rfl, rfl, _, rfl, RowLe.of_eq (congrArg (bldRow false 65 _) hl2)⟩, ⟨rfl, rfl, _, rfl, RowLe.of_eq (congrArg rowT hgo.symm)⟩, trivial⟩)
 ·have he : i = h.length := by have := of_decide_eq_false h3; omega
  subst he
  have hpos := List.length_pos_iff.2 hne
  have hnn : textE h ≠ [] := fun e => by
   obtain ⟨x, l, rfl⟩ := List.exists_cons_of_ne_nil hne
   simp [textE] at e
  have hbz : Nat.beq h.length 0 = false := by
   cases hz : Nat.beq h.length 0 with
   | false => rfl
   | true => have := Nat.eq_of_beq_eq_true hz; omega
  rw [hbz, List.take_length]
  refine wc_exit ?_;refine seq_x ?_;refine loop_x ?_;refine blk_x ?_;refine seq_n ?_;refine sR ?_;refine reg_new2 (call_h [(0, some 65), (1, some 66)] (bstring_is (textE h) (textE h).length rfl hnn hT) rfl rfl rfl (arg_ptr rfl rfl arg_nil) ⟨⟨rfl, rfl, _, _, rfl, rfl, .refl _⟩, ⟨rfl, rfl, _, _, rfl, rfl, .refl _⟩, trivial⟩ rfl rfl (.inl rfl) rfl rfl) rfl ?_
  iterate 2 refine rC ?_
  refine nS ?_;refine wc_ret ?_
  exact ⟨trivial, [], lf⟩
theorem htext_zero : FnIs Tryz.prog 24 [.d (encH [])] [] (.tup (.acons (.d (strD [])) (.acons (.d (i6 0)) .anil))) [] := by
 have hC := hcheck_is [] (by decide)
 rw [show chkH [] = (0, 0) from rfl] at hC
 refine fnIs_of tab_ok Tryz.func24 rfl rfl rfl ?_;refine sR ?_;iterate 2 refine rC ?_
 refine nQ ?_;refine sR ?_;refine rC ?_;refine rQ (call_r hC rfl rfl (arg_e arg_nil) (.inl rfl) (fun _ => rfl)) ?_;iterate 5 refine rC ?_
 refine nR ?_;iterate 2 refine rC ?_
 refine nS ?_;refine wG ?_;refine kS ?_;refine sR ?_;refine rN ?_;refine nQ ?_;refine sR ?_;refine rC ?_;refine rQ iE ?_;refine rC ?_;refine nS ?_;refine wc_block ?_
 refine wc_once ?_;refine sR ?_;refine rC ?_;refine nQ ?_;refine wG ?_;refine wc_exit ?_;refine seq_x ?_;refine loop_x ?_;refine blk_x ?_;refine seq_n ?_;refine sR ?_
 refine reg_new (call_h [(0, some _)] bstring_zero rfl rfl rfl (arg_ptr rfl rfl arg_nil) ⟨⟨rfl, rfl, _, _, rfl, rfl, .refl _⟩, trivial⟩ rfl rfl (.inl rfl) rfl rfl) rfl ?_
 iterate 2 refine rC ?_
 refine nS ?_;refine wc_ret ?_
 exact ⟨trivial, [], lf⟩
theorem htext_bad (h : List HEv) (hh : h.length ≤ 9223372036854775807) (h0 : (chkH h).2 ≠ 0) : FnIs Tryz.prog 24 [.d (encH h)] [] (.tup (.acons (.d (strD [])) (.acons (.int .i64 (chkH h).2) .anil))) [] := by
 have d0 : (!decide ((chkH h).2 = 0)) = true := by rw [dF h0]; rfl
 have hC := hcheck_is h hh
 refine fnIs_of tab_ok Tryz.func24 rfl rfl rfl ?_;refine sR ?_;iterate 2 refine rC ?_
 refine nQ ?_;refine sR ?_;refine rC ?_;refine rQ (call_r hC rfl rfl (arg_e arg_nil) (.inl rfl) (fun _ => rfl)) ?_;iterate 5 refine rC ?_
 refine nR ?_;iterate 2 refine rC ?_
 refine nS ?_;refine wT ?_;refine sR ?_;iterate 3 refine rC ?_
 refine nS ?_;refine wc_ret ?_;refine seq_r ?_
 exact ⟨trivial, [], lf⟩
theorem htext_is (h : List HEv) (hh : h.length ≤ 9223372036854775807) (hL : (chkH h).2 = 0 → h.length ≤ 1000000) (hok : (chkH h).2 = 0 → ∀ x ∈ h, x.Ok ∧ x.op.data.length ≤ 64) (hT : (chkH h).2 = 0 → (textE h).length ≤ 1048576) : FnIs Tryz.prog 24 [.d (encH h)] [] (.tup (.acons (.d (strD (if (chkH h).2 = 0 then textE h else []))) (.acons (.int .i64 (chkH h).2) .anil))) [] := by
 by_cases h0 : (chkH h).2 = 0
 ·rw [if_pos h0, h0]
  by_cases hn : h = []
  ·subst hn; exact htext_zero
  ·exact htext_some h hn (hL h0) h0 (hok h0) (hT h0)
 ·rw [if_neg h0]
  exact htext_bad h hh h0
abbrev evR2 (y : HEv) (b : Bool) : AV := .tup (.acons (.d (encEv y)) (.acons (.bool b) .anil))
theorem ev_le (k c e : Int) (b : Bool) : AVLe (.tup (.acons (.d (.cons (u8s k) (.cons (i6 c) (.cons zPOp (.cons (.vec 32 1 encU8 (List.replicate 32 0)) (.cons (i6 e) .nil)))))) (.acons (.bool b) .anil))) (evR2 ⟨k, c, zOp, zBk, e⟩ b) := AVLe.tup1 (AVLe.d (zev_le k c e) rfl) rfl
theorem ev_le2 (k c e : Int) (v : List UInt8) (b : Bool) : AVLe (.tup (.acons (.d (.cons (u8s k) (.cons (i6 c) (.cons zPOp (.cons (encBk v) (.cons (i6 e) .nil)))))) (.acons (.bool b) .anil))) (evR2 ⟨k, c, zOp, v, e⟩ b) := by
 refine AVLe.tup1 (AVLe.d ?_ rfl) rfl
 rintro w X cs ⟨c1, r1, rfl, h1, c2, r2, rfl, h2, c3, r3, rfl, h3, h4⟩
 exact ⟨c1, _, rfl, h1, c2, _, rfl, h2, c3, _, rfl, zop_le _ _ _ h3, h4⟩
theorem event_crash (s : List UInt8) (hs : s = sCrash) : FnIs Tryz.prog 73 [.d (strD s)] [] (evR2 crashE true) [] := by
 have d0 : decide (s = sCrash) = true := dT hs
 refine fnIs_of tab_ok Tryz.func73 rfl rfl rfl ?_;refine sR ?_;refine rN ?_;refine rC ?_;refine nQ ?_;refine sR ?_;refine rC ?_;refine rQ (eql_s (a := s) (b := sCrash) tab_ok rfl rfl rfl) ?_
 refine nS ?_;refine wT ?_;refine sR ?_;refine rQ iS ?_;refine rW ?_;refine rC ?_;refine nS ?_;refine wc_ret ?_;refine seq_r ?_
 exact ⟨trivial, _, rfl, [], .of rfl rfl rfl rfl rfl ⟨⟨_, rfl, ev_le 3 0 0 true⟩, rfl, trivial⟩ trivial⟩
structure HeadIs (s kind r1 cl rest : List UInt8) (b1 b2 ok : Bool) (n : Int) : Prop where
 c1 : FnIs Tryz.prog 72 [.d (strD s), .d (strD [32])] [] (.tup (.acons (.d (strD kind)) (.acons (.d (strD r1)) (.acons (.bool b1) .anil)))) []
 c2 : FnIs Tryz.prog 72 [.d (strD r1), .d (strD [32])] [] (.tup (.acons (.d (strD cl)) (.acons (.d (strD rest)) (.acons (.bool b2) .anil)))) []
 a : FnIs Tryz.prog 118 [.d (strD cl)] [] (.tup (.acons (.int .i64 n) (.acons (erA ok) .anil))) []
theorem event_other (s kind r1 cl rest : List UInt8) (b1 b2 ok : Bool) (n : Int) (H : HeadIs s kind r1 cl rest b1 b2 ok n) (hs : s ≠ sCrash) (h1 : kind ≠ sInvoke) (h2 : kind ≠ sReturn) : FnIs Tryz.prog 73 [.d (strD s)] [] (evR2 ⟨0, n, zOp, zBk, 0⟩ false) [] := by
 have d0 : decide (s = sCrash) = false := dF hs
 have d1 : decide (kind = sInvoke) = false := dF h1
 have d2 : decide (kind = sReturn) = false := dF h2
 obtain ⟨hc1, hc2, ha⟩ := H
 refine fnIs_of tab_ok Tryz.func73 rfl rfl rfl ?_
 cases ok with
 | false =>
  refine sR ?_;refine rN ?_;refine rC ?_;refine nQ ?_;refine sR ?_;refine rC ?_;refine rQ (eql_s (a := s) (b := sCrash) tab_ok rfl rfl rfl) ?_;refine nS ?_;refine wF ?_
  refine kS ?_;refine sR ?_;refine rC ?_;refine rQ (call_r hc1 rfl rfl (arg_e (arg_e arg_nil)) (.inl rfl) (fun _ => rfl)) ?_;iterate 7 refine rC ?_
  refine nR ?_;refine rC ?_;refine rQ (call_r hc2 rfl rfl (arg_e (arg_e arg_nil)) (.inl rfl) (fun _ => rfl)) ?_;iterate 7 refine rC ?_
  refine nR ?_;refine rC ?_;refine rQ (call_r ha rfl rfl (arg_e arg_nil) (.inl rfl) (fun _ => rfl)) ?_;iterate 5 refine rC ?_
  refine nR ?_;iterate 2 refine rC ?_
  refine rX ?_;refine nQ ?_;refine sR ?_;refine rC ?_;refine nS ?_;refine wc_block ?_;refine sR ?_;refine rQ (eql_s (a := kind) (b := sInvoke) tab_ok rfl rfl rfl) ?_
  refine rC ?_;refine nS ?_;refine wF ?_;refine sR ?_;refine rQ (eql_s (a := kind) (b := sReturn) tab_ok rfl rfl rfl) ?_;refine rC ?_;refine nS ?_;refine wF ?_;refine sR ?_
  refine rQ iM ?_;refine rW ?_;refine rC ?_;refine nS ?_;refine wc_ret ?_;refine blk_r ?_;refine seq_r ?_
  exact ⟨trivial, _, rfl, [], .of rfl rfl rfl rfl rfl ⟨⟨_, rfl, ev_le 0 n 0 false⟩, rfl, trivial⟩ trivial⟩
 | true =>
  refine sR ?_;refine rN ?_;refine rC ?_;refine nQ ?_;refine sR ?_;refine rC ?_;refine rQ (eql_s (a := s) (b := sCrash) tab_ok rfl rfl rfl) ?_;refine nS ?_;refine wF ?_
  refine kS ?_;refine sR ?_;refine rC ?_;refine rQ (call_r hc1 rfl rfl (arg_e (arg_e arg_nil)) (.inl rfl) (fun _ => rfl)) ?_;iterate 7 refine rC ?_
  refine nR ?_;refine rC ?_;refine rQ (call_r hc2 rfl rfl (arg_e (arg_e arg_nil)) (.inl rfl) (fun _ => rfl)) ?_;iterate 7 refine rC ?_
  refine nR ?_;refine rC ?_;refine rQ (call_r ha rfl rfl (arg_e arg_nil) (.inl rfl) (fun _ => rfl)) ?_;iterate 5 refine rC ?_
  refine nR ?_;iterate 2 refine rC ?_
  refine rX ?_;refine nQ ?_;refine sR ?_;refine rC ?_;refine nS ?_;refine wc_block ?_;refine sR ?_;refine rQ (eql_s (a := kind) (b := sInvoke) tab_ok rfl rfl rfl) ?_
  refine rC ?_;refine nS ?_;refine wF ?_;refine sR ?_;refine rQ (eql_s (a := kind) (b := sReturn) tab_ok rfl rfl rfl) ?_;refine rC ?_;refine nS ?_;refine wF ?_;refine sR ?_
  refine rQ iM ?_;refine rW ?_;refine rC ?_;refine nS ?_;refine wc_ret ?_;refine blk_r ?_;refine seq_r ?_
  exact ⟨trivial, _, rfl, [], .of rfl rfl rfl rfl rfl ⟨⟨_, rfl, ev_le 0 n 0 false⟩, rfl, trivial⟩ trivial⟩
theorem event_inv_no (s kind r1 cl rest : List UInt8) (b1 b2 ok : Bool) (n : Int) (H : HeadIs s kind r1 cl rest b1 b2 ok n) (hs : s ≠ sCrash) (h1 : kind = sInvoke) (hrl : rest.length ≤ 1048568) (l : List (List POp)) (k : Nat) (e : Int)
  (hp : FnIs Tryz.prog 47 [.d (strD (sClient ++ [10] ++ rest ++ [10]))] [] (parR l k e) []) (hno : ¬ (ok = true ∧ e = 0 ∧ l.length = 1 ∧ ∀ p, l[0]? = some p → p.length = 1)) : FnIs Tryz.prog 73 [.d (strD s)] [] (evR2 ⟨1, n, zOp, zBk, 0⟩ false) [] := by
 have d0 : decide (s = sCrash) = false := dF hs
 have d1 : decide (kind = sInvoke) = true := dT h1
 obtain ⟨hc1, hc2, ha⟩ := H
 refine fnIs_of tab_ok Tryz.func73 rfl rfl rfl ?_
 cases ok with
 | false =>
  refine sR ?_;refine rN ?_;refine rC ?_;refine nQ ?_;refine sR ?_;refine rC ?_;refine rQ (eql_s (a := s) (b := sCrash) tab_ok rfl rfl rfl) ?_;refine nS ?_;refine wF ?_
  refine kS ?_;refine sR ?_;refine rC ?_;refine rQ (call_r hc1 rfl rfl (arg_e (arg_e arg_nil)) (.inl rfl) (fun _ => rfl)) ?_;iterate 7 refine rC ?_
  refine nR ?_;refine rC ?_;refine rQ (call_r hc2 rfl rfl (arg_e (arg_e arg_nil)) (.inl rfl) (fun _ => rfl)) ?_;iterate 7 refine rC ?_
  refine nR ?_;refine rC ?_;refine rQ (call_r ha rfl rfl (arg_e arg_nil) (.inl rfl) (fun _ => rfl)) ?_;iterate 5 refine rC ?_
  refine nR ?_;iterate 2 refine rC ?_
  refine rX ?_;refine nQ ?_;refine sR ?_;refine rC ?_;refine nS ?_;refine wc_block ?_;refine sR ?_;refine rQ (eql_s (a := kind) (b := sInvoke) tab_ok rfl rfl rfl) ?_
  refine rC ?_;refine nS ?_;refine wT ?_;refine sR ?_;refine rC ?_;refine rX ?_;refine nR ?_;refine rC ?_
  refine rQ (add_str (a := sClient ++ [10]) (b := rest) rfl rfl (by simp [sClient]; omega) rfl) ?_
  refine rQ (add_str (a := sClient ++ [10] ++ rest) (b := [10]) rfl rfl (by simp [sClient]; omega) rfl) ?_
  refine rQ (call_r hp rfl rfl (arg_e arg_nil) (.inl rfl) (fun _ => rfl)) ?_;iterate 7 refine rC ?_
  refine nQ ?_;refine sR ?_;refine rC ?_;refine rQ (neq_er Tryz.underlying122 rfl) ?_;refine rC ?_;iterate 2 refine rT ?_
  refine rQ iU ?_;refine rC ?_;iterate 3 refine rT ?_
  refine rQ iU ?_;refine rC ?_;iterate 5 refine rT ?_
  refine rQ iU ?_;refine nS ?_;refine wV ?_;refine sR ?_;refine rQ iM ?_;refine rW ?_;refine rC ?_;refine nS ?_;refine wc_ret ?_;refine seq_r ?_;refine blk_r ?_;refine seq_r ?_
  exact ⟨trivial, _, rfl, [], .of rfl rfl rfl rfl rfl ⟨⟨_, rfl, ev_le 1 n 0 false⟩, rfl, trivial⟩ trivial⟩
 | true =>
  by_cases he : e = 0
  ·have f1 : (!decide (e = 0)) = false := by rw [dT he]; rfl
   by_cases hl : l.length = 1
   ·have f2 : (!decide ((l.length : Int) = 1)) = false := by rw [dT (by omega)]; rfl
    obtain ⟨p, hpl⟩ : ∃ p, l[0]? = some p := ⟨_, List.getElem?_eq_getElem (by omega)⟩
    have hpl' : l[((0 : Int)).toNat]? = some p := hpl
    have f3 : (!decide ((p.length : Int) = 1)) = true := by
     rw [dF]
     ·rfl
     ·intro e1
      exact hno ⟨rfl, he, hl, fun q hq => by rw [hpl] at hq; cases hq; omega⟩
    refine sR ?_;refine rN ?_;refine rC ?_;refine nQ ?_;refine sR ?_;refine rC ?_;refine rQ (eql_s (a := s) (b := sCrash) tab_ok rfl rfl rfl) ?_;refine nS ?_;refine wF ?_
    refine kS ?_;refine sR ?_;refine rC ?_;refine rQ (call_r hc1 rfl rfl (arg_e (arg_e arg_nil)) (.inl rfl) (fun _ => rfl)) ?_;iterate 7 refine rC ?_
    refine nR ?_;refine rC ?_;refine rQ (call_r hc2 rfl rfl (arg_e (arg_e arg_nil)) (.inl rfl) (fun _ => rfl)) ?_;iterate 7 refine rC ?_
    refine nR ?_;refine rC ?_;refine rQ (call_r ha rfl rfl (arg_e arg_nil) (.inl rfl) (fun _ => rfl)) ?_;iterate 5 refine rC ?_
    refine nR ?_;iterate 2 refine rC ?_
    refine rX ?_;refine nQ ?_;refine sR ?_;refine rC ?_;refine nS ?_;refine wc_block ?_;refine sR ?_;refine rQ (eql_s (a := kind) (b := sInvoke) tab_ok rfl rfl rfl) ?_
    refine rC ?_;refine nS ?_;refine wT ?_;refine sR ?_;refine rC ?_;refine rX ?_;refine nR ?_;refine rC ?_
    refine rQ (add_str (a := sClient ++ [10]) (b := rest) rfl rfl (by simp [sClient]; omega) rfl) ?_
    refine rQ (add_str (a := sClient ++ [10] ++ rest) (b := [10]) rfl rfl (by simp [sClient]; omega) rfl) ?_
    refine rQ (call_r hp rfl rfl (arg_e arg_nil) (.inl rfl) (fun _ => rfl)) ?_;iterate 7 refine rC ?_
    refine nQ ?_;refine sR ?_;refine rC ?_;refine rQ (neq_nilI Tryz.underlying122 rfl) ?_;refine rC ?_;refine rP ?_;refine rC ?_;refine rP ?_;refine rC ?_;refine rQ iG ?_
    refine rC ?_;refine rO ?_;refine rC ?_;refine rO ?_;refine rQ (len_arx tab_ok rfl rfl) ?_;refine rO ?_;refine rC ?_;refine rQ iF ?_;refine rC ?_;refine rO ?_;refine rC ?_
    refine rO ?_;refine rQ (index_arx tab_ok rfl rfl rfl rfl rfl (by omega) (by assumption)) ?_;refine rO ?_;refine rQ iL ?_;refine rO ?_;refine rQ (len_arx tab_ok rfl rfl) ?_
    refine rO ?_;refine rC ?_;refine rQ iF ?_;refine nS ?_;refine wT ?_;refine sR ?_;refine rQ iM ?_;refine rW ?_;refine rC ?_;refine nS ?_;refine wc_ret ?_;refine seq_r ?_
    refine blk_r ?_;refine seq_r ?_
    exact ⟨trivial, _, rfl, [], .of rfl rfl rfl rfl rfl ⟨⟨_, rfl, ev_le 1 n 0 false⟩, rfl, trivial⟩ trivial⟩
   ·have f2 : (!decide ((l.length : Int) = 1)) = true := by rw [dF (by omega)]; rfl
    refine sR ?_;refine rN ?_;refine rC ?_;refine nQ ?_;refine sR ?_;refine rC ?_;refine rQ (eql_s (a := s) (b := sCrash) tab_ok rfl rfl rfl) ?_;refine nS ?_;refine wF ?_
    refine kS ?_;refine sR ?_;refine rC ?_;refine rQ (call_r hc1 rfl rfl (arg_e (arg_e arg_nil)) (.inl rfl) (fun _ => rfl)) ?_;iterate 7 refine rC ?_
    refine nR ?_;refine rC ?_;refine rQ (call_r hc2 rfl rfl (arg_e (arg_e arg_nil)) (.inl rfl) (fun _ => rfl)) ?_;iterate 7 refine rC ?_
    refine nR ?_;refine rC ?_;refine rQ (call_r ha rfl rfl (arg_e arg_nil) (.inl rfl) (fun _ => rfl)) ?_;iterate 5 refine rC ?_
    refine nR ?_;iterate 2 refine rC ?_
    refine rX ?_;refine nQ ?_;refine sR ?_;refine rC ?_;refine nS ?_;refine wc_block ?_;refine sR ?_;refine rQ (eql_s (a := kind) (b := sInvoke) tab_ok rfl rfl rfl) ?_
    refine rC ?_;refine nS ?_;refine wT ?_;refine sR ?_;refine rC ?_;refine rX ?_;refine nR ?_;refine rC ?_
    refine rQ (add_str (a := sClient ++ [10]) (b := rest) rfl rfl (by simp [sClient]; omega) rfl) ?_
    refine rQ (add_str (a := sClient ++ [10] ++ rest) (b := [10]) rfl rfl (by simp [sClient]; omega) rfl) ?_
    refine rQ (call_r hp rfl rfl (arg_e arg_nil) (.inl rfl) (fun _ => rfl)) ?_;iterate 7 refine rC ?_
    refine nQ ?_;refine sR ?_;refine rC ?_;refine rQ (neq_nilI Tryz.underlying122 rfl) ?_;refine rC ?_;refine rP ?_;refine rC ?_;refine rP ?_;refine rC ?_;refine rQ iG ?_
    refine rC ?_;refine rO ?_;refine rC ?_;refine rO ?_;refine rQ (len_arx tab_ok rfl rfl) ?_;refine rO ?_;refine rC ?_;refine rQ iF ?_;refine rC ?_;iterate 5 refine rS ?_
    refine rQ iT ?_;refine nS ?_;refine wV ?_;refine sR ?_;refine rQ iM ?_;refine rW ?_;refine rC ?_;refine nS ?_;refine wc_ret ?_;refine seq_r ?_;refine blk_r ?_;refine seq_r ?_
    exact ⟨trivial, _, rfl, [], .of rfl rfl rfl rfl rfl ⟨⟨_, rfl, ev_le 1 n 0 false⟩, rfl, trivial⟩ trivial⟩
  ·have f1 : (!decide (e = 0)) = true := by rw [dF he]; rfl
   refine sR ?_;refine rN ?_;refine rC ?_;refine nQ ?_;refine sR ?_;refine rC ?_;refine rQ (eql_s (a := s) (b := sCrash) tab_ok rfl rfl rfl) ?_;refine nS ?_;refine wF ?_
   refine kS ?_;refine sR ?_;refine rC ?_;refine rQ (call_r hc1 rfl rfl (arg_e (arg_e arg_nil)) (.inl rfl) (fun _ => rfl)) ?_;iterate 7 refine rC ?_
   refine nR ?_;refine rC ?_;refine rQ (call_r hc2 rfl rfl (arg_e (arg_e arg_nil)) (.inl rfl) (fun _ => rfl)) ?_;iterate 7 refine rC ?_
   refine nR ?_;refine rC ?_;refine rQ (call_r ha rfl rfl (arg_e arg_nil) (.inl rfl) (fun _ => rfl)) ?_;iterate 5 refine rC ?_
   refine nR ?_;iterate 2 refine rC ?_
   refine rX ?_;refine nQ ?_;refine sR ?_;refine rC ?_;refine nS ?_;refine wc_block ?_;refine sR ?_;refine rQ (eql_s (a := kind) (b := sInvoke) tab_ok rfl rfl rfl) ?_
   refine rC ?_;refine nS ?_;refine wT ?_;refine sR ?_;refine rC ?_;refine rX ?_;refine nR ?_;refine rC ?_
   refine rQ (add_str (a := sClient ++ [10]) (b := rest) rfl rfl (by simp [sClient]; omega) rfl) ?_
   refine rQ (add_str (a := sClient ++ [10] ++ rest) (b := [10]) rfl rfl (by simp [sClient]; omega) rfl) ?_
   refine rQ (call_r hp rfl rfl (arg_e arg_nil) (.inl rfl) (fun _ => rfl)) ?_;iterate 7 refine rC ?_
   refine nQ ?_;refine sR ?_;refine rC ?_;refine rQ (neq_nilI Tryz.underlying122 rfl) ?_;refine rC ?_;refine rP ?_;refine rC ?_;refine rP ?_;refine rC ?_;refine rQ iG ?_
   refine rC ?_;iterate 3 refine rS ?_
   refine rQ iT ?_;refine rC ?_;iterate 5 refine rT ?_
   refine rQ iU ?_;refine nS ?_;refine wV ?_;refine sR ?_;refine rQ iM ?_;refine rW ?_;refine rC ?_;refine nS ?_;refine wc_ret ?_;refine seq_r ?_;refine blk_r ?_;refine seq_r ?_
   exact ⟨trivial, _, rfl, [], .of rfl rfl rfl rfl rfl ⟨⟨_, rfl, ev_le 1 n 0 false⟩, rfl, trivial⟩ trivial⟩
theorem event_inv (s kind r1 cl rest : List UInt8) (b1 b2 : Bool) (n : Int) (H : HeadIs s kind r1 cl rest b1 b2 true n) (hs : s ≠ sCrash) (h1 : kind = sInvoke) (hrl : rest.length ≤ 1048568) (o : POp) (k : Nat)
  (hp : FnIs Tryz.prog 47 [.d (strD (sClient ++ [10] ++ rest ++ [10]))] [] (parR [[o]] k 0) []) (hok : HEv.Ok ⟨1, n, o, zBk, 0⟩) (hdo : o.data.length ≤ 64) (c : Bool) (hcq : decide (lineE ⟨1, n, o, zBk, 0⟩ = s) = c) : FnIs Tryz.prog 73 [.d (strD s)] [] (evR2 ⟨1, n, o, zBk, 0⟩ c) [] := by
 subst hcq
 have d0 : decide (s = sCrash) = false := dF hs
 have d1 : decide (kind = sInvoke) = true := dT h1
 have f2 : (!decide ((([[o]] : List (List POp)).length : Int) = 1)) = false := rfl
 have f3 : (!decide ((([o] : List POp).length : Int) = 1)) = false := rfl
 have hpl' : ([[o]] : List (List POp))[((0 : Int)).toNat]? = some [o] := rfl
 have hpo' : ([o] : List POp)[((0 : Int)).toNat]? = some o := rfl
 obtain ⟨hc1, hc2, ha⟩ := H
 refine fnIs_of tab_ok Tryz.func73 rfl rfl rfl ?_;refine sR ?_;refine rN ?_;refine rC ?_;refine nQ ?_;refine sR ?_;refine rC ?_;refine rQ (eql_s (a := s) (b := sCrash) tab_ok rfl rfl rfl) ?_
 refine nS ?_;refine wF ?_;refine kS ?_;refine sR ?_;refine rC ?_;refine rQ (call_r hc1 rfl rfl (arg_e (arg_e arg_nil)) (.inl rfl) (fun _ => rfl)) ?_;iterate 7 refine rC ?_
 refine nR ?_;refine rC ?_;refine rQ (call_r hc2 rfl rfl (arg_e (arg_e arg_nil)) (.inl rfl) (fun _ => rfl)) ?_;iterate 7 refine rC ?_
 refine nR ?_;refine rC ?_;refine rQ (call_r ha rfl rfl (arg_e arg_nil) (.inl rfl) (fun _ => rfl)) ?_;iterate 5 refine rC ?_
 refine nR ?_;iterate 2 refine rC ?_
 refine rX ?_;refine nQ ?_;refine sR ?_;refine rC ?_;refine nS ?_;refine wc_block ?_;refine sR ?_;refine rQ (eql_s (a := kind) (b := sInvoke) tab_ok rfl rfl rfl) ?_
 refine rC ?_;refine nS ?_;refine wT ?_;refine sR ?_;refine rC ?_;refine rX ?_;refine nR ?_;refine rC ?_
 refine rQ (add_str (a := sClient ++ [10]) (b := rest) rfl rfl (by simp [sClient]; omega) rfl) ?_
 refine rQ (add_str (a := sClient ++ [10] ++ rest) (b := [10]) rfl rfl (by simp [sClient]; omega) rfl) ?_
 refine rQ (call_r hp rfl rfl (arg_e arg_nil) (.inl rfl) (fun _ => rfl)) ?_;iterate 7 refine rC ?_
 refine nQ ?_;refine sR ?_;refine rC ?_;refine rQ (neq_nilI Tryz.underlying122 rfl) ?_;refine rC ?_;refine rP ?_;refine rC ?_;refine rP ?_;refine rC ?_;refine rQ iG ?_
 refine rC ?_;refine rP ?_;refine rC ?_;refine rP ?_;refine rQ (len_arx tab_ok rfl rfl) ?_;refine rP ?_;refine rC ?_;refine rQ iG ?_;refine rC ?_;refine rP ?_;refine rC ?_
 refine rP ?_;refine rQ (index_arx tab_ok rfl rfl rfl rfl rfl (by omega) (by assumption)) ?_;refine rP ?_;refine rQ iL ?_;refine rP ?_;refine rQ (len_arx tab_ok rfl rfl) ?_
 refine rP ?_;refine rC ?_;refine rQ iG ?_;refine nS ?_;refine wG ?_;refine kS ?_;refine wc_region ?_;refine rC ?_;refine rQ (index_arx tab_ok rfl rfl rfl rfl rfl (by omega) (by assumption)) ?_
 refine rQ iL ?_;refine rQ (index_arx tab_ok rfl rfl rfl rfl rfl (by omega) (by assumption)) ?_;refine rQ iL ?_;refine rC ?_;refine rX ?_;refine reg_nil ?_;refine blk_n ?_
 refine seq_n ?_;refine wc_seq ?_;refine wc_draw (by kernel_rfl) ?_;refine dQ [2] [64] iM ?_;refine dC [10] [] ?_;refine dQ [114] [] (eql_nilI Tryz.underlying122 rfl) ?_
 refine dC [115] [] ?_;refine dreg_onq [116, 2] [64] rfl rfl rfl rfl (load_box tab_ok rfl rfl rfl rfl) ?_;refine dreg_onq [116, 117] [] rfl rfl rfl rfl (call_r (hline_is ⟨1, n, o, zBk, 0⟩ hok hdo) rfl rfl (arg_e arg_nil) (.inl rfl) (fun _ => rfl)) ?_
 refine dreg_onq [116, 0] [] rfl rfl rfl rfl (step_C tab_ok (fun K hk => hk)) ?_;refine dreg_onq [116, 118, 119] [] rfl rfl rfl rfl (eql_s (a := lineE ⟨1, n, o, zBk, 0⟩) (b := s) tab_ok rfl rfl rfl) ?_
 refine dQ [116, 120] [] iU ?_;refine dreg_s [2, 113] [64] (store_row tab_ok rfl rfl rfl ⟨_, ⟨rfl, rfl, rfl⟩, rfl⟩ rfl) ?_;refine dC [121] [] ?_;refine dreg_end (by kernel_rfl) ?_
 refine seq_n ?_;refine wc_ret ?_
 exact ⟨trivial, _, rfl, [], lf⟩
end Go.Proofs.YtmojbghcngdkpaaGreatDoor
namespace Go.Proofs.YtmojbghcngdkpaaGreatDoor
open Go.Eng Go.Plain
set_option maxHeartbeats 8000000
set_option maxRecDepth 20000
set_option linter.unusedVariables false
attribute [local irreducible] WC RegS RegD SeqQ BlkQ ScoQ RegK CutK Sat SatN FnIs LoopQ StepIs OpIs
theorem words_at {i : Nat} {k : Int} {v : AV} (h : wordsL[i]? = some (k, v)) : ∃ w, v = .d (strD w) ∧ i < 4 ∧ keyOf w = some k ∧ w = wordE k := by
 unfold wordsL at h
 match i, h with
 | 0, h => cases h; exact ⟨_, rfl, by decide, by decide, rfl⟩
 | 1, h => cases h; exact ⟨_, rfl, by decide, by decide, rfl⟩
 | 2, h => cases h; exact ⟨_, rfl, by decide, by decide, rfl⟩
 | 3, h => cases h; exact ⟨_, rfl, by decide, by decide, rfl⟩
 | i + 4, h => simp at h
theorem words_get {w : List UInt8} {k : Int} (h : keyOf w = some k) : ∃ i, i < 4 ∧ wordsL[i]? = some (k, .d (strD w)) := by
 obtain ⟨h1, h2⟩ := keyOf_some h
 rw [h2]
 rcases kn4_out h1 with rfl | rfl | rfl | rfl
 ·exact ⟨0, by decide, rfl⟩
 ·exact ⟨1, by decide, rfl⟩
 ·exact ⟨2, by decide, rfl⟩
 ·exact ⟨3, by decide, rfl⟩
theorem zop_ok : zOp.Ok := ⟨by decide, by decide⟩
theorem zev_le2 (k c e : Int) (v : List UInt8) : DLe (.cons (u8s k) (.cons (i6 c) (.cons zPOp (.cons (encBk v) (.cons (i6 e) .nil))))) (encEv ⟨k, c, zOp, v, e⟩) := by
 rintro w X cs ⟨c1, r1, rfl, h1, c2, r2, rfl, h2, c3, r3, rfl, h3, h4⟩
 exact ⟨c1, _, rfl, h1, c2, _, rfl, h2, c3, _, rfl, zop_le _ _ _ h3, h4⟩
theorem zev_args (k c e : Int) (v : List UInt8) : ArgsLe [.d (.cons (u8s k) (.cons (i6 c) (.cons zPOp (.cons (encBk v) (.cons (i6 e) .nil)))))] [.d (encEv ⟨k, c, zOp, v, e⟩)] := ⟨⟨AVLe.d (zev_le2 k c e v) rfl, fun _ _ => trivial⟩, trivial⟩
def leftN (seen : List Nat) : Nat := (if 0 ∈ seen then 0 else 1) + (if 1 ∈ seen then 0 else 1) + (if 2 ∈ seen then 0 else 1) + (if 3 ∈ seen then 0 else 1)
theorem left_lt {seen : List Nat} {i : Nat} (hi : i < 4) (hs : i ∉ seen) : leftN (seen ++ [i]) < leftN seen := by
 unfold leftN
 simp only [List.mem_append, List.mem_singleton]
 match i, hi, hs with
 | 0, _, hs => simp only [hs, if_false, or_true, if_true]; simp
 | 1, _, hs => simp only [hs, if_false, or_true, if_true]; simp
 | 2, _, hs => simp only [hs, if_false, or_true, if_true]; simp
 | 3, _, hs => simp only [hs, if_false, or_true, if_true]; simp
structure FndIs (word : List UInt8) (seen : List Nat) (f : Option Int) : Prop where
 no : f = none → ∀ i ∈ seen, ∀ k, wordsL[i]? ≠ some (k, .d (strD word))
 yes : ∀ k, f = some k → keyOf word = some k
theorem FndIs.all {word : List UInt8} {seen : List Nat} {f : Option Int} (h : FndIs word seen f) (ha : ∀ i, i < 4 → i ∈ seen) : f = keyOf word := by
 cases f with
 | some k => exact (h.yes k rfl).symm
 | none =>
  cases hk : keyOf word with
  | none => rfl
  | some k =>
   obtain ⟨i, hi, hg⟩ := words_get hk
   exact absurd hg (h.no rfl i (ha i hi) k)
theorem strD_inj {a b : List UInt8} (h : strD a = strD b) : a = b := by
 simp only [strD, mkS, D.sc.injEq, Value.string.injEq, ByteArray.mk.injEq] at h
 simpa using h
theorem FndIs.hit {word : List UInt8} {seen : List Nat} {f : Option Int} {i : Nat} {k : Int} (h : wordsL[i]? = some (k, .d (strD word))) (hk : keyOf word = some k) : FndIs word (seen ++ [i]) (some k) :=
 ⟨fun e => (by cases e), fun k' e => by cases e; exact hk⟩
theorem FndIs.miss {word w : List UInt8} {seen : List Nat} {f : Option Int} {i : Nat} {k : Int} (H : FndIs word seen f) (h : wordsL[i]? = some (k, .d (strD w))) (hne : w ≠ word) : FndIs word (seen ++ [i]) f := by
 refine ⟨fun e j hj k' hg => ?_, H.yes⟩
 rcases List.mem_append.1 hj with hj | hj
 ·exact H.no e j hj k' hg
 ·have : j = i := by simpa using hj
  subst this
  rw [h] at hg
  simp only [Option.some.injEq, Prod.mk.injEq, AV.d.injEq] at hg
  exact hne (strD_inj hg.2)
def retV (more : Bool) (vb : List UInt8) : List UInt8 := if more = true then vb else zBk
def evRet (s : List UInt8) (n : Int) (ok more bb : Bool) (vb : List UInt8) : Option Int → HEv × Bool
 | none => (⟨2, n, zOp, zBk, 0⟩, false)
 | some k => (⟨2, n, zOp, retV more vb, k⟩, (if more = true then bb else true) && (ok && decide (lineE ⟨2, n, zOp, retV more vb, k⟩ = s)))
def kInt (f : Option Int) : Int := f.getD 0
abbrev evBox (n : Int) (f : Option Int) : Row := .box 59 (.d (.cons (u8s 2) (.cons (i6 n) (.cons zPOp (.cons (.vec 32 1 encU8 (List.replicate 32 0)) (.cons (i6 (kInt f)) .nil))))))
theorem event_ret_false (s kind r1 cl rest word value : List UInt8) (b1 b2 more bb : Bool) (n : Int) (vb : List UInt8) (H : HeadIs s kind r1 cl rest b1 b2 false n) (hs : s ≠ sCrash) (h1 : kind = sReturn)
  (hc3 : FnIs Tryz.prog 72 [.d (strD rest), .d (strD [32])] [] (.tup (.acons (.d (strD word)) (.acons (.d (strD value)) (.acons (.bool more) .anil)))) []) (hb : FnIs Tryz.prog 119 [.d (strD value)] [] (blkR vb bb) []) (hbl : bb = true → vb.length = 32) :
  FnIs Tryz.prog 73 [.d (strD s)] [] (evR2 (evRet s n false more bb vb (keyOf word)).1 (evRet s n false more bb vb (keyOf word)).2) [] := by
 have d0 : decide (s = sCrash) = false := dF hs
 have d1 : decide (kind = sInvoke) = false := dF (by rw [h1]; decide)
 have d2 : decide (kind = sReturn) = true := dT h1
 obtain ⟨hc1, hc2, ha⟩ := H
 refine fnIs_of tab_ok Tryz.func73 rfl rfl rfl ?_;refine sR ?_;refine rN ?_;refine rC ?_;refine nQ ?_;refine sR ?_;refine rC ?_;refine rQ (eql_s (a := s) (b := sCrash) tab_ok rfl rfl rfl) ?_
 refine nS ?_;refine wF ?_;refine kS ?_;refine sR ?_;refine rC ?_;refine rQ (call_r hc1 rfl rfl (arg_e (arg_e arg_nil)) (.inl rfl) (fun _ => rfl)) ?_;iterate 7 refine rC ?_
 refine nR ?_;refine rC ?_;refine rQ (call_r hc2 rfl rfl (arg_e (arg_e arg_nil)) (.inl rfl) (fun _ => rfl)) ?_;iterate 7 refine rC ?_
 refine nR ?_;refine rC ?_;refine rQ (call_r ha rfl rfl (arg_e arg_nil) (.inl rfl) (fun _ => rfl)) ?_;iterate 5 refine rC ?_
 refine nR ?_;iterate 2 refine rC ?_
 refine rX ?_;refine nQ ?_;refine sR ?_;refine rC ?_;refine nS ?_;refine wc_block ?_;refine sR ?_;refine rQ (eql_s (a := kind) (b := sInvoke) tab_ok rfl rfl rfl) ?_
 refine rC ?_;refine nS ?_;refine wF ?_;refine sR ?_;refine rQ (eql_s (a := kind) (b := sReturn) tab_ok rfl rfl rfl) ?_;refine rC ?_;refine nS ?_;refine wT ?_;refine sR ?_
 refine rC ?_;refine rX ?_;refine nR ?_;refine rC ?_;refine rQ (call_r hc3 rfl rfl (arg_e (arg_e arg_nil)) (.inl rfl) (fun _ => rfl)) ?_;iterate 7 refine rC ?_
 refine nQ ?_;refine sR ?_;refine reg_new (call_h [] words_is rfl rfl rfl arg_nil trivial rfl rfl (.inl rfl) rfl rfl) rfl ?_;refine reg_new (range_map (κ := Int) (enc := i6) (l := wordsL) Tryz.underlying173 rfl rfl) rfl ?_
 refine nS ?_;refine wc_block ?_
 refine wc_inv (fun q : List Nat × Option Int => ⟨[(89, .ptr 67 []), (14, .d (strD word)), (15, .d (strD value)), (16, .bool more), (10, erA false), (0, .d (strD s)), (2, .ptr 65 []), (3, .bool q.2.isSome)], [(65, some (evBox n q.2)), (66, some (.mo (mapC i6 wordsL))), (67, some (.mi (.mapr 66) 4 4 q.1))], 72, Tryz.f73.ntmps, 64⟩) (fun q => FndIs word q.1 q.2) (fun q => leftN q.1) ([], none) [(65, some 64), (66, some 448), (67, some 456)] ⟨fun _ i hi => (by cases hi), fun k e => (by cases e)⟩
  (.of rfl rfl rfl rfl rfl ⟨⟨_, rfl, .refl _⟩, rfl, ⟨_, rfl, .refl _⟩, rfl, ⟨_, rfl, .refl _⟩, rfl, ⟨_, rfl, .refl _⟩, rfl, ⟨_, rfl, .refl _⟩, rfl, ⟨_, rfl, .refl _⟩, rfl, ⟨_, rfl, .refl _⟩, rfl, ⟨_, rfl, .refl _⟩, rfl, trivial⟩ ⟨⟨rfl, rfl, _, rfl, .refl _⟩, ⟨rfl, rfl, _, rfl, .refl _⟩, ⟨rfl, rfl, _, rfl, .refl _⟩, trivial⟩) ?_
 rintro ⟨seen, f⟩ hf
 simp only at hf
 refine wc_of ?_;refine sR ?_
 refine reg_next_map (κ := Int) (enc := i6) (l := wordsL) rfl rfl rfl rfl rfl (fun hall => ?_) (fun i k v hl hs' => ?_)
 ·have hfe := hf.all hall
  subst hfe
  refine rC ?_;refine nQ ?_;refine wG ?_;refine wc_exit ?_;refine seq_x ?_;refine loop_x ?_;refine blk_x ?_;refine seq_n ?_;refine qR ?_;iterate 2 refine rC ?_
  cases hk : keyOf word with
  | none =>
   skip
   cases more with
   | false =>
    refine rT ?_;refine rQ iG ?_;refine nS ?_;refine wG ?_;refine kS ?_;refine sR ?_;iterate 2 refine rC ?_
    refine nS ?_;refine wV ?_;refine sR ?_;refine rQ iM ?_;refine rW ?_;refine rC ?_;refine nS ?_;refine wc_ret ?_;refine blk_r ?_;refine seq_r ?_
    exact ⟨trivial, _, rfl, [], .of rfl rfl rfl rfl rfl ⟨⟨_, rfl, ev_le 2 n 0 false⟩, rfl, trivial⟩ trivial⟩
   | true =>
    refine rP ?_;refine rC ?_;refine rQ iU ?_;refine nS ?_;refine wG ?_;refine kS ?_;refine sR ?_;iterate 2 refine rC ?_
    refine nS ?_;refine wV ?_;refine sR ?_;refine rQ iM ?_;refine rW ?_;refine rC ?_;refine nS ?_;refine wc_ret ?_;refine blk_r ?_;refine seq_r ?_
    exact ⟨trivial, _, rfl, [], .of rfl rfl rfl rfl rfl ⟨⟨_, rfl, ev_le 2 n 0 false⟩, rfl, trivial⟩ trivial⟩
  | some k =>
   have hkn := (keyOf_some hk).1
   have hkr := kn4_out hkn
   skip
   cases more with
   | false =>
    obtain ⟨v, hv⟩ : ∃ v, v = zBk := ⟨_, rfl⟩
    subst hv
    refine rT ?_;refine rQ iG ?_;refine nS ?_;refine wG ?_;refine kS ?_;refine sR ?_;iterate 2 refine rC ?_
    refine nS ?_;refine wG ?_;refine wc_skip ?_;refine blk_n ?_;refine seq_n ?_;refine wc_seq ?_;refine wc_draw (by kernel_rfl) ?_;refine dQ [2] [65] iM ?_;refine dC [10] [] ?_
    refine dQ [114] [] (eql_er Tryz.underlying122 rfl) ?_;refine dC [115] [] ?_;refine dreg_offq [116, 2] rfl rfl rfl rfl ?_;refine dreg_offq [116, 117] rfl rfl rfl rfl ?_
    refine dreg_offq [116, 0] rfl rfl rfl rfl ?_;refine dreg_offq [116, 118, 119] rfl rfl rfl rfl ?_;refine dQ [116, 120] [] iG ?_;refine dreg_s [2, 113] [65] (store_row tab_ok rfl rfl rfl ⟨_, ⟨rfl, rfl, rfl⟩, rfl⟩ rfl) ?_
    refine dC [121] [] ?_;refine dreg_end (by kernel_rfl) ?_;refine seq_n ?_;refine wc_ret ?_
    exact ⟨trivial, _, rfl, [], .of rfl rfl rfl rfl rfl ⟨⟨_, rfl, ev_le 2 n k _⟩, rfl, trivial⟩ trivial⟩
   | true =>
    refine rP ?_;refine rC ?_;refine rQ iU ?_;refine nS ?_;refine wV ?_;refine wc_region ?_;refine rC ?_;refine rQ (call_r hb rfl rfl (arg_e arg_nil) (.inl rfl) (fun _ => rfl)) ?_
    iterate 4 refine rC ?_
    refine rX ?_;refine rC ?_;refine nR ?_;iterate 2 refine rC ?_
    refine nS ?_
    cases bb with
    | false =>
     refine wV ?_;refine sR ?_;refine rQ iM ?_;refine rW ?_;refine rC ?_;refine nS ?_;refine wc_ret ?_;refine blk_r ?_;refine seq_r ?_
     exact ⟨trivial, _, rfl, [], .of rfl rfl rfl rfl rfl ⟨⟨_, rfl, ev_le2 2 n k vb _⟩, rfl, trivial⟩ trivial⟩
    | true =>
     obtain ⟨v, hv⟩ : ∃ v, v = vb := ⟨_, rfl⟩
     subst hv
     refine wG ?_;refine wc_skip ?_;refine blk_n ?_;refine seq_n ?_;refine wc_seq ?_;refine wc_draw (by kernel_rfl) ?_;refine dQ [2] [65] iM ?_;refine dC [10] [] ?_;refine dQ [114] [] (eql_er Tryz.underlying122 rfl) ?_
     refine dC [115] [] ?_;refine dreg_offq [116, 2] rfl rfl rfl rfl ?_;refine dreg_offq [116, 117] rfl rfl rfl rfl ?_;refine dreg_offq [116, 0] rfl rfl rfl rfl ?_;refine dreg_offq [116, 118, 119] rfl rfl rfl rfl ?_
     refine dQ [116, 120] [] iG ?_;refine dreg_s [2, 113] [65] (store_row tab_ok rfl rfl rfl ⟨_, ⟨rfl, rfl, rfl⟩, rfl⟩ rfl) ?_;refine dC [121] [] ?_;refine dreg_end (by kernel_rfl) ?_
     refine seq_n ?_;refine wc_ret ?_
     exact ⟨trivial, _, rfl, [], .of rfl rfl rfl rfl rfl ⟨⟨_, rfl, ev_le2 2 n k v _⟩, rfl, trivial⟩ trivial⟩
 ·obtain ⟨w, rfl, hi4, hkw, _⟩ := words_at hl
  refine rC ?_;refine nQ ?_;refine wV ?_;refine kS ?_;refine wc_block ?_;refine sR ?_;refine rQ (entry_map (κ := Int) (enc := i6) (l := wordsL) (i := i) rfl rfl rfl rfl hl) ?_
  iterate 4 refine rC ?_
  refine nR ?_;iterate 2 refine rC ?_
  refine rQ (eql_s (a := w) (b := word) tab_ok rfl rfl rfl) ?_;refine nS ?_
  by_cases hw : w = word
  ·have dw : decide (w = word) = true := dT hw
   refine wT ?_;refine wc_region ?_;iterate 2 refine rC ?_
   refine rX ?_;refine rC ?_;refine reg_nil ?_;refine blk_n ?_
   subst hw
   exact loop_n (seen ++ [i], some k) [] (FndIs.hit (f := f) hl hkw) (left_lt hi4 hs') (.of rfl rfl rfl rfl rfl ⟨⟨_, rfl, .refl _⟩, rfl, ⟨_, rfl, .refl _⟩, rfl, ⟨_, rfl, .refl _⟩, rfl, ⟨_, rfl, .refl _⟩, rfl, ⟨_, rfl, .refl _⟩, rfl, ⟨_, rfl, .refl _⟩, rfl, ⟨_, rfl, .refl _⟩, rfl, ⟨_, rfl, .refl _⟩, rfl, trivial⟩ ⟨⟨rfl, rfl, _, rfl, .refl _⟩, ⟨rfl, rfl, _, rfl, .refl _⟩, ⟨rfl, rfl, _, rfl, .refl _⟩, trivial⟩)
  ·have dw : decide (w = word) = false := dF hw
   refine wF ?_;refine wc_skip ?_;refine blk_n ?_
   exact loop_n (seen ++ [i], f) [] (FndIs.miss hf hl hw) (left_lt hi4 hs') (.of rfl rfl rfl rfl rfl ⟨⟨_, rfl, .refl _⟩, rfl, ⟨_, rfl, .refl _⟩, rfl, ⟨_, rfl, .refl _⟩, rfl, ⟨_, rfl, .refl _⟩, rfl, ⟨_, rfl, .refl _⟩, rfl, ⟨_, rfl, .refl _⟩, rfl, ⟨_, rfl, .refl _⟩, rfl, ⟨_, rfl, .refl _⟩, rfl, trivial⟩ ⟨⟨rfl, rfl, _, rfl, .refl _⟩, ⟨rfl, rfl, _, rfl, .refl _⟩, ⟨rfl, rfl, _, rfl, .refl _⟩, trivial⟩)
theorem event_ret_true (s kind r1 cl rest word value : List UInt8) (b1 b2 more bb : Bool) (n : Int) (vb : List UInt8) (H : HeadIs s kind r1 cl rest b1 b2 true n) (hs : s ≠ sCrash) (h1 : kind = sReturn)
  (hc3 : FnIs Tryz.prog 72 [.d (strD rest), .d (strD [32])] [] (.tup (.acons (.d (strD word)) (.acons (.d (strD value)) (.acons (.bool more) .anil)))) []) (hb : FnIs Tryz.prog 119 [.d (strD value)] [] (blkR vb bb) []) (hbl : bb = true → vb.length = 32) (hn0 : -9223372036854775808 ≤ n) (hn1 : n ≤ 9223372036854775807) :
  FnIs Tryz.prog 73 [.d (strD s)] [] (evR2 (evRet s n true more bb vb (keyOf word)).1 (evRet s n true more bb vb (keyOf word)).2) [] := by
 have d0 : decide (s = sCrash) = false := dF hs
 have d1 : decide (kind = sInvoke) = false := dF (by rw [h1]; decide)
 have d2 : decide (kind = sReturn) = true := dT h1
 obtain ⟨hc1, hc2, ha⟩ := H
 refine fnIs_of tab_ok Tryz.func73 rfl rfl rfl ?_;refine sR ?_;refine rN ?_;refine rC ?_;refine nQ ?_;refine sR ?_;refine rC ?_;refine rQ (eql_s (a := s) (b := sCrash) tab_ok rfl rfl rfl) ?_
 refine nS ?_;refine wF ?_;refine kS ?_;refine sR ?_;refine rC ?_;refine rQ (call_r hc1 rfl rfl (arg_e (arg_e arg_nil)) (.inl rfl) (fun _ => rfl)) ?_;iterate 7 refine rC ?_
 refine nR ?_;refine rC ?_;refine rQ (call_r hc2 rfl rfl (arg_e (arg_e arg_nil)) (.inl rfl) (fun _ => rfl)) ?_;iterate 7 refine rC ?_
 refine nR ?_;refine rC ?_;refine rQ (call_r ha rfl rfl (arg_e arg_nil) (.inl rfl) (fun _ => rfl)) ?_;iterate 5 refine rC ?_
 refine nR ?_;iterate 2 refine rC ?_
 refine rX ?_;refine nQ ?_;refine sR ?_;refine rC ?_;refine nS ?_;refine wc_block ?_;refine sR ?_;refine rQ (eql_s (a := kind) (b := sInvoke) tab_ok rfl rfl rfl) ?_
 refine rC ?_;refine nS ?_;refine wF ?_;refine sR ?_;refine rQ (eql_s (a := kind) (b := sReturn) tab_ok rfl rfl rfl) ?_;refine rC ?_;refine nS ?_;refine wT ?_;refine sR ?_
 refine rC ?_;refine rX ?_;refine nR ?_;refine rC ?_;refine rQ (call_r hc3 rfl rfl (arg_e (arg_e arg_nil)) (.inl rfl) (fun _ => rfl)) ?_;iterate 7 refine rC ?_
 refine nQ ?_;refine sR ?_;refine reg_new (call_h [] words_is rfl rfl rfl arg_nil trivial rfl rfl (.inl rfl) rfl rfl) rfl ?_;refine reg_new (range_map (κ := Int) (enc := i6) (l := wordsL) Tryz.underlying173 rfl rfl) rfl ?_
 refine nS ?_;refine wc_block ?_
 refine wc_inv (fun q : List Nat × Option Int => ⟨[(89, .ptr 67 []), (14, .d (strD word)), (15, .d (strD value)), (16, .bool more), (10, erA true), (0, .d (strD s)), (2, .ptr 65 []), (3, .bool q.2.isSome)], [(65, some (evBox n q.2)), (66, some (.mo (mapC i6 wordsL))), (67, some (.mi (.mapr 66) 4 4 q.1))], 72, Tryz.f73.ntmps, 64⟩) (fun q => FndIs word q.1 q.2) (fun q => leftN q.1) ([], none) [(65, some 64), (66, some 448), (67, some 456)] ⟨fun _ i hi => (by cases hi), fun k e => (by cases e)⟩
  (.of rfl rfl rfl rfl rfl ⟨⟨_, rfl, .refl _⟩, rfl, ⟨_, rfl, .refl _⟩, rfl, ⟨_, rfl, .refl _⟩, rfl, ⟨_, rfl, .refl _⟩, rfl, ⟨_, rfl, .refl _⟩, rfl, ⟨_, rfl, .refl _⟩, rfl, ⟨_, rfl, .refl _⟩, rfl, ⟨_, rfl, .refl _⟩, rfl, trivial⟩ ⟨⟨rfl, rfl, _, rfl, .refl _⟩, ⟨rfl, rfl, _, rfl, .refl _⟩, ⟨rfl, rfl, _, rfl, .refl _⟩, trivial⟩) ?_
 rintro ⟨seen, f⟩ hf
 simp only at hf
 refine wc_of ?_;refine sR ?_
 refine reg_next_map (κ := Int) (enc := i6) (l := wordsL) rfl rfl rfl rfl rfl (fun hall => ?_) (fun i k v hl hs' => ?_)
 ·have hfe := hf.all hall
  subst hfe
  refine rC ?_;refine nQ ?_;refine wG ?_;refine wc_exit ?_;refine seq_x ?_;refine loop_x ?_;refine blk_x ?_;refine seq_n ?_;refine qR ?_;iterate 2 refine rC ?_
  cases hk : keyOf word with
  | none =>
   skip
   cases more with
   | false =>
    refine rT ?_;refine rQ iG ?_;refine nS ?_;refine wG ?_;refine kS ?_;refine sR ?_;iterate 2 refine rC ?_
    refine nS ?_;refine wV ?_;refine sR ?_;refine rQ iM ?_;refine rW ?_;refine rC ?_;refine nS ?_;refine wc_ret ?_;refine blk_r ?_;refine seq_r ?_
    exact ⟨trivial, _, rfl, [], .of rfl rfl rfl rfl rfl ⟨⟨_, rfl, ev_le 2 n 0 false⟩, rfl, trivial⟩ trivial⟩
   | true =>
    refine rP ?_;refine rC ?_;refine rQ iU ?_;refine nS ?_;refine wG ?_;refine kS ?_;refine sR ?_;iterate 2 refine rC ?_
    refine nS ?_;refine wV ?_;refine sR ?_;refine rQ iM ?_;refine rW ?_;refine rC ?_;refine nS ?_;refine wc_ret ?_;refine blk_r ?_;refine seq_r ?_
    exact ⟨trivial, _, rfl, [], .of rfl rfl rfl rfl rfl ⟨⟨_, rfl, ev_le 2 n 0 false⟩, rfl, trivial⟩ trivial⟩
  | some k =>
   have hkn := (keyOf_some hk).1
   have hkr := kn4_out hkn
   skip
   cases more with
   | false =>
    obtain ⟨v, hv⟩ : ∃ v, v = zBk := ⟨_, rfl⟩
    have hok : HEv.Ok ⟨2, n, zOp, v, k⟩ := ⟨show (0 : Int) ≤ 2 ∧ (2 : Int) ≤ 255 by decide, ⟨hn0, hn1⟩, zop_ok, by rw [hv]; rfl, by rcases hkr with h | h | h | h <;> (simp only [h]; decide)⟩
    have hline := FnIs.args_le (zev_args 2 n k v) (hline_is ⟨2, n, zOp, v, k⟩ hok (show zOp.data.length ≤ 64 by decide))
    rw [show evRet s n true false bb vb (some k) = (⟨2, n, zOp, v, k⟩, decide (lineE ⟨2, n, zOp, v, k⟩ = s)) by rw [hv]; rfl]
    subst hv
    refine rT ?_;refine rQ iG ?_;refine nS ?_;refine wG ?_;refine kS ?_;refine sR ?_;iterate 2 refine rC ?_
    refine nS ?_;refine wG ?_;refine wc_skip ?_;refine blk_n ?_;refine seq_n ?_;refine wc_seq ?_;refine wc_draw (by kernel_rfl) ?_;refine dQ [2] [65] iM ?_;refine dC [10] [] ?_
    refine dQ [114] [] (eql_nilI Tryz.underlying122 rfl) ?_;refine dC [115] [] ?_;refine dreg_onq [116, 2] [65] rfl rfl rfl rfl (load_box tab_ok rfl rfl rfl rfl) ?_
    refine dreg_onq [116, 117] [] rfl rfl rfl rfl (call_r hline rfl rfl (arg_e arg_nil) (.inl rfl) (fun _ => rfl)) ?_;refine dreg_onq [116, 0] [] rfl rfl rfl rfl (step_C tab_ok (fun K hk => hk)) ?_
    refine dreg_onq [116, 118, 119] [] rfl rfl rfl rfl (eql_s (a := lineE ⟨2, n, zOp, zBk, k⟩) (b := s) tab_ok rfl rfl rfl) ?_;refine dQ [116, 120] [] iU ?_;refine dreg_s [2, 113] [65] (store_row tab_ok rfl rfl rfl ⟨_, ⟨rfl, rfl, rfl⟩, rfl⟩ rfl) ?_
    refine dC [121] [] ?_;refine dreg_end (by kernel_rfl) ?_;refine seq_n ?_;refine wc_ret ?_
    exact ⟨trivial, _, rfl, [], .of rfl rfl rfl rfl rfl ⟨⟨_, rfl, ev_le 2 n k _⟩, rfl, trivial⟩ trivial⟩
   | true =>
    refine rP ?_;refine rC ?_;refine rQ iU ?_;refine nS ?_;refine wV ?_;refine wc_region ?_;refine rC ?_;refine rQ (call_r hb rfl rfl (arg_e arg_nil) (.inl rfl) (fun _ => rfl)) ?_
    iterate 4 refine rC ?_
    refine rX ?_;refine rC ?_;refine nR ?_;iterate 2 refine rC ?_
    refine nS ?_
    cases bb with
    | false =>
     refine wV ?_;refine sR ?_;refine rQ iM ?_;refine rW ?_;refine rC ?_;refine nS ?_;refine wc_ret ?_;refine blk_r ?_;refine seq_r ?_
     exact ⟨trivial, _, rfl, [], .of rfl rfl rfl rfl rfl ⟨⟨_, rfl, ev_le2 2 n k vb _⟩, rfl, trivial⟩ trivial⟩
    | true =>
     obtain ⟨v, hv⟩ : ∃ v, v = vb := ⟨_, rfl⟩
     subst hv
     have hok : HEv.Ok ⟨2, n, zOp, v, k⟩ := ⟨show (0 : Int) ≤ 2 ∧ (2 : Int) ≤ 255 by decide, ⟨hn0, hn1⟩, zop_ok, hbl rfl, by rcases hkr with h | h | h | h <;> (simp only [h]; decide)⟩
     have hline := FnIs.args_le (zev_args 2 n k v) (hline_is ⟨2, n, zOp, v, k⟩ hok (show zOp.data.length ≤ 64 by decide))
     refine wG ?_;refine wc_skip ?_;refine blk_n ?_;refine seq_n ?_;refine wc_seq ?_;refine wc_draw (by kernel_rfl) ?_;refine dQ [2] [65] iM ?_;refine dC [10] [] ?_;refine dQ [114] [] (eql_nilI Tryz.underlying122 rfl) ?_
     refine dC [115] [] ?_;refine dreg_onq [116, 2] [65] rfl rfl rfl rfl (load_box tab_ok rfl rfl rfl rfl) ?_;refine dreg_onq [116, 117] [] rfl rfl rfl rfl (call_r hline rfl rfl (arg_e arg_nil) (.inl rfl) (fun _ => rfl)) ?_
     refine dreg_onq [116, 0] [] rfl rfl rfl rfl (step_C tab_ok (fun K hk => hk)) ?_;refine dreg_onq [116, 118, 119] [] rfl rfl rfl rfl (eql_s (a := lineE ⟨2, n, zOp, v, k⟩) (b := s) tab_ok rfl rfl rfl) ?_
     refine dQ [116, 120] [] iU ?_;refine dreg_s [2, 113] [65] (store_row tab_ok rfl rfl rfl ⟨_, ⟨rfl, rfl, rfl⟩, rfl⟩ rfl) ?_;refine dC [121] [] ?_;refine dreg_end (by kernel_rfl) ?_
     refine seq_n ?_;refine wc_ret ?_
     exact ⟨trivial, _, rfl, [], .of rfl rfl rfl rfl rfl ⟨⟨_, rfl, ev_le2 2 n k v _⟩, rfl, trivial⟩ trivial⟩
 ·obtain ⟨w, rfl, hi4, hkw, _⟩ := words_at hl
  refine rC ?_;refine nQ ?_;refine wV ?_;refine kS ?_;refine wc_block ?_;refine sR ?_;refine rQ (entry_map (κ := Int) (enc := i6) (l := wordsL) (i := i) rfl rfl rfl rfl hl) ?_
  iterate 4 refine rC ?_
  refine nR ?_;iterate 2 refine rC ?_
  refine rQ (eql_s (a := w) (b := word) tab_ok rfl rfl rfl) ?_;refine nS ?_
  by_cases hw : w = word
  ·have dw : decide (w = word) = true := dT hw
   refine wT ?_;refine wc_region ?_;iterate 2 refine rC ?_
   refine rX ?_;refine rC ?_;refine reg_nil ?_;refine blk_n ?_
   subst hw
   exact loop_n (seen ++ [i], some k) [] (FndIs.hit (f := f) hl hkw) (left_lt hi4 hs') (.of rfl rfl rfl rfl rfl ⟨⟨_, rfl, .refl _⟩, rfl, ⟨_, rfl, .refl _⟩, rfl, ⟨_, rfl, .refl _⟩, rfl, ⟨_, rfl, .refl _⟩, rfl, ⟨_, rfl, .refl _⟩, rfl, ⟨_, rfl, .refl _⟩, rfl, ⟨_, rfl, .refl _⟩, rfl, ⟨_, rfl, .refl _⟩, rfl, trivial⟩ ⟨⟨rfl, rfl, _, rfl, .refl _⟩, ⟨rfl, rfl, _, rfl, .refl _⟩, ⟨rfl, rfl, _, rfl, .refl _⟩, trivial⟩)
  ·have dw : decide (w = word) = false := dF hw
   refine wF ?_;refine wc_skip ?_;refine blk_n ?_
   exact loop_n (seen ++ [i], f) [] (FndIs.miss hf hl hw) (left_lt hi4 hs') (.of rfl rfl rfl rfl rfl ⟨⟨_, rfl, .refl _⟩, rfl, ⟨_, rfl, .refl _⟩, rfl, ⟨_, rfl, .refl _⟩, rfl, ⟨_, rfl, .refl _⟩, rfl, ⟨_, rfl, .refl _⟩, rfl, ⟨_, rfl, .refl _⟩, rfl, ⟨_, rfl, .refl _⟩, rfl, ⟨_, rfl, .refl _⟩, rfl, trivial⟩ ⟨⟨rfl, rfl, _, rfl, .refl _⟩, ⟨rfl, rfl, _, rfl, .refl _⟩, ⟨rfl, rfl, _, rfl, .refl _⟩, trivial⟩)
end Go.Proofs.YtmojbghcngdkpaaGreatDoor
namespace Go.Proofs.YtmojbghcngdkpaaGreatDoor
open Go.Eng Go.Plain
set_option maxHeartbeats 8000000
set_option maxRecDepth 20000
set_option linter.unusedVariables false
set_option linter.unusedSimpArgs false
attribute [local irreducible] WC RegS RegD SeqQ BlkQ ScoQ RegK CutK Sat SatN FnIs LoopQ StepIs OpIs
def joinL : List (List UInt8) → List UInt8
 | [] => []
 | [w] => w
 | w :: v :: ws => w ++ 32 :: joinL (v :: ws)
def j32 (w : List UInt8) : List UInt8 := w ++ [32]
theorem join_split : ∀ (k : Nat) (l : List UInt8), l.length ≤ k → joinL (splitL l 32) = l
 | k, l, hk => by
  rw [split_cut]
  cases h : cutL l 32 with
  | none => rfl
  | some pq =>
   obtain ⟨p, q⟩ := pq
   have hl := (cutL_some h).1
   have hlen : l.length = p.length + 1 + q.length := by rw [hl]; simp; omega
   cases k with
   | zero => omega
   | succ k =>
    have ih := join_split k q (by omega)
    obtain ⟨v, ws, hw⟩ := List.exists_cons_of_ne_nil (splitL_ne q 32)
    simp only
    rw [hw, joinL, ← hw, ih, hl]
theorem join_get : ∀ (ws : List (List UInt8)) (k : Nat) (x : List UInt8), ws[k]? = some x → (k + 1 = ws.length → joinL ws = (ws.take k).flatMap j32 ++ x) ∧ ((ws.take k).flatMap j32).length + x.length ≤ (joinL ws).length ∧ (k + 1 < ws.length → ((ws.take k).flatMap j32).length + x.length + 1 ≤ (joinL ws).length)
 | [], k, x, h => by simp at h
 | [w], 0, x, h => by
  simp at h
  subst h
  exact ⟨fun _ => by simp [joinL], by simp [joinL], fun h => by simp at h⟩
 | [w], k + 1, x, h => by simp at h
 | w :: v :: ws, 0, x, h => by
  simp at h
  subst h
  exact ⟨fun h => by simp at h, by simp [joinL], fun _ => by simp [joinL]⟩
 | w :: v :: ws, k + 1, x, h => by
  obtain ⟨h1, h2, h3⟩ := join_get (v :: ws) k x (by simpa using h)
  rw [joinL]
  refine ⟨fun hk => ?_, ?_, fun hk => ?_⟩
  ·rw [h1 (by simpa using hk)]; simp [j32]
  ·simp only [List.take_succ_cons, List.flatMap_cons, List.length_append, List.length_cons, j32, List.length_nil] at h2 ⊢; omega
  ·have := h3 (by simpa using hk)
   simp only [List.take_succ_cons, List.flatMap_cons, List.length_append, List.length_cons, j32, List.length_nil] at this ⊢; omega
def joinP (ws : List (List UInt8)) (k : Nat) : List UInt8 := if k < ws.length then (ws.take k).flatMap j32 else joinL ws
theorem joinP_zero {ws : List (List UInt8)} (h : 0 < ws.length) : joinP ws 0 = [] := by rw [joinP, if_pos h]; rfl
theorem joinP_next {ws : List (List UInt8)} {k : Nat} {x : List UInt8} (hx : ws[k]? = some x) (h : k + 1 < ws.length) : joinP ws (k + 1) = joinP ws k ++ x ++ [32] := by
 rw [joinP, if_pos h, joinP, if_pos (by omega), List.take_add_one, hx]; simp [j32]
theorem joinP_last {ws : List (List UInt8)} {k : Nat} {x : List UInt8} (hx : ws[k]? = some x) (h : k + 1 = ws.length) : joinP ws (k + 1) = joinP ws k ++ x := by
 rw [joinP, if_neg (by omega), joinP, if_pos (by omega)]
 exact (join_get ws k x hx).1 h
theorem joinP_len {ws : List (List UInt8)} {k : Nat} {x : List UInt8} (hx : ws[k]? = some x) : (joinP ws k).length + x.length ≤ (joinL ws).length ∧ (k + 1 < ws.length → (joinP ws k).length + x.length + 1 ≤ (joinL ws).length) := by
 have hk := (List.getElem?_eq_some_iff.1 hx).1
 rw [joinP, if_pos hk]
 exact (join_get ws k x hx).2
theorem joinP_end {ws : List (List UInt8)} : joinP ws ws.length = joinL ws := by rw [joinP, if_neg (by omega)]
abbrev rdR (y : HEv) (b : Bool) : AV := .tup (.acons (.d (encEv y)) (.acons (.int .i64 (if b then 1 else 0)) .anil))
theorem rd_le (k c e : Int) (v : List UInt8) (b : Bool) : AVLe (.tup (.acons (.d (.cons (u8s k) (.cons (i6 c) (.cons zPOp (.cons (encBk v) (.cons (i6 e) .nil)))))) (.acons (.int .i64 (if b then 1 else 0)) .anil))) (rdR ⟨k, c, zOp, v, e⟩ b) := AVLe.tup1 (AVLe.d (zev_le2 k c e v) rfl) rfl
theorem crashE_ok : crashE.Ok := ⟨show (0 : Int) ≤ 3 ∧ (3 : Int) ≤ 255 by decide, show (-9223372036854775808 : Int) ≤ 0 ∧ (0 : Int) ≤ 9223372036854775807 by decide, zop_ok, rfl, show (-9223372036854775808 : Int) ≤ 0 ∧ (0 : Int) ≤ 9223372036854775807 by decide⟩
theorem rd_crash (s : List UInt8) (W : List (List UInt8)) (hW : splitL s 32 = W) (hs : s.length ≤ 1048575) (hno : ¬ (2 < W.length ∧ ∃ a, W[0]? = some a ∧ (a = sInvoke ∨ a = sReturn))) : FnIs Tryz.prog 70 [.d (strD s)] [] (rdR crashE (decide (rlineE crashE = s))) [] := by
 have hcut := rcut_is s 32 hs
 rw [hW] at hcut
 have hline := FnIs.args_le (zev_args 3 0 0 zBk) (rline24_is crashE crashE_ok (show zOp.data.length ≤ 1000000 by decide))
 obtain ⟨c, hc⟩ : ∃ c, decide (rlineE crashE = s) = c := ⟨_, rfl⟩
 rw [hc]
 by_cases h2 : 2 < W.length
 ·have e2 : decide ((2 : Int) < (W.length : Int)) = true := dT (by omega)
  obtain ⟨a, g0'⟩ : ∃ a, W[0]? = some a := ⟨_, List.getElem?_eq_getElem (by omega)⟩
  have g0 : W[((0 : Int)).toNat]? = some a := g0'
  have d1 : decide (a = sInvoke) = false := dF fun e => hno ⟨h2, a, g0', .inl e⟩
  have d2 : decide (a = sReturn) = false := dF fun e => hno ⟨h2, a, g0', .inr e⟩
  refine fnIs_of tab_ok Tryz.func70 rfl rfl rfl ?_
  cases c with
  | false =>
   have e9 : (!decide (rlineE crashE = s)) = true := by rw [hc]; rfl
   refine sR ?_;refine rN ?_;refine rC ?_;refine nR ?_;refine rQ iS ?_;refine rN ?_;refine rW ?_;refine nR ?_;refine rC ?_;refine rQ (call_r hcut rfl rfl (arg_e (arg_e arg_nil)) (.inl rfl) (fun _ => rfl)) ?_
   refine rC ?_;refine nQ ?_;refine sR ?_;refine rC ?_;refine rQ iE ?_;iterate 2 refine rC ?_
   refine rO ?_;refine rC ?_;refine rO ?_;refine rQ (index_arr (xs := W) tab_ok rfl rfl rfl rfl rfl (by omega) g0) ?_;refine rO ?_;refine rQ iL ?_;refine rO ?_;refine rQ (eql_s (a := a) (b := sInvoke) tab_ok rfl rfl rfl) ?_
   refine rQ iT ?_;refine nS ?_;refine wF ?_;refine kS ?_;refine qR ?_;refine rC ?_;refine rQ iE ?_;iterate 2 refine rC ?_
   refine rO ?_;refine rC ?_;refine rO ?_;refine rQ (index_arr (xs := W) tab_ok rfl rfl rfl rfl rfl (by omega) g0) ?_;refine rO ?_;refine rQ iL ?_;refine rO ?_;refine rQ (eql_s (a := a) (b := sReturn) tab_ok rfl rfl rfl) ?_
   refine rQ iT ?_;refine nS ?_;refine wF ?_;refine kS ?_;refine qR ?_;refine rQ iM ?_;refine rQ (call_r hline rfl rfl (arg_e arg_nil) (.inl rfl) (fun _ => rfl)) ?_
   refine rC ?_;refine rQ (neq_s (a := rlineE crashE) (b := s) tab_ok rfl rfl rfl) ?_;refine nS ?_;refine wT ?_;refine sR ?_;refine rQ iM ?_;refine rW ?_;refine rC ?_
   refine nS ?_;refine wc_ret ?_;refine seq_r ?_
   exact ⟨trivial, _, rfl, [], .of rfl rfl rfl rfl rfl ⟨⟨_, rfl, rd_le 3 0 0 zBk false⟩, rfl, trivial⟩ trivial⟩
  | true =>
   have e9 : (!decide (rlineE crashE = s)) = false := by rw [hc]; rfl
   refine sR ?_;refine rN ?_;refine rC ?_;refine nR ?_;refine rQ iS ?_;refine rN ?_;refine rW ?_;refine nR ?_;refine rC ?_;refine rQ (call_r hcut rfl rfl (arg_e (arg_e arg_nil)) (.inl rfl) (fun _ => rfl)) ?_
   refine rC ?_;refine nQ ?_;refine sR ?_;refine rC ?_;refine rQ iE ?_;iterate 2 refine rC ?_
   refine rO ?_;refine rC ?_;refine rO ?_;refine rQ (index_arr (xs := W) tab_ok rfl rfl rfl rfl rfl (by omega) g0) ?_;refine rO ?_;refine rQ iL ?_;refine rO ?_;refine rQ (eql_s (a := a) (b := sInvoke) tab_ok rfl rfl rfl) ?_
   refine rQ iT ?_;refine nS ?_;refine wF ?_;refine kS ?_;refine qR ?_;refine rC ?_;refine rQ iE ?_;iterate 2 refine rC ?_
   refine rO ?_;refine rC ?_;refine rO ?_;refine rQ (index_arr (xs := W) tab_ok rfl rfl rfl rfl rfl (by omega) g0) ?_;refine rO ?_;refine rQ iL ?_;refine rO ?_;refine rQ (eql_s (a := a) (b := sReturn) tab_ok rfl rfl rfl) ?_
   refine rQ iT ?_;refine nS ?_;refine wF ?_;refine kS ?_;refine qR ?_;refine rQ iM ?_;refine rQ (call_r hline rfl rfl (arg_e arg_nil) (.inl rfl) (fun _ => rfl)) ?_
   refine rC ?_;refine rQ (neq_s (a := rlineE crashE) (b := s) tab_ok rfl rfl rfl) ?_;refine nS ?_;refine wF ?_;refine kS ?_;refine sR ?_;refine rQ iM ?_;refine rW ?_
   refine rC ?_;refine nS ?_;refine wc_ret ?_
   exact ⟨trivial, _, rfl, [], .of rfl rfl rfl rfl rfl ⟨⟨_, rfl, rd_le 3 0 0 zBk true⟩, rfl, trivial⟩ trivial⟩
 ·have e2 : decide ((2 : Int) < (W.length : Int)) = false := dF (by omega)
  refine fnIs_of tab_ok Tryz.func70 rfl rfl rfl ?_
  cases c with
  | false =>
   have e9 : (!decide (rlineE crashE = s)) = true := by rw [hc]; rfl
   refine sR ?_;refine rN ?_;refine rC ?_;refine nR ?_;refine rQ iS ?_;refine rN ?_;refine rW ?_;refine nR ?_;refine rC ?_;refine rQ (call_r hcut rfl rfl (arg_e (arg_e arg_nil)) (.inl rfl) (fun _ => rfl)) ?_
   refine rC ?_;refine nQ ?_;refine sR ?_;refine rC ?_;refine rQ iE ?_;iterate 2 refine rC ?_
   iterate 4 refine rS ?_
   refine rQ iF ?_;refine nS ?_;refine wG ?_;refine kS ?_;refine qR ?_;refine rC ?_;refine rQ iE ?_;iterate 2 refine rC ?_
   iterate 4 refine rS ?_
   refine rQ iF ?_;refine nS ?_;refine wG ?_;refine kS ?_;refine qR ?_;refine rQ iM ?_;refine rQ (call_r hline rfl rfl (arg_e arg_nil) (.inl rfl) (fun _ => rfl)) ?_
   refine rC ?_;refine rQ (neq_s (a := rlineE crashE) (b := s) tab_ok rfl rfl rfl) ?_;refine nS ?_;refine wT ?_;refine sR ?_;refine rQ iM ?_;refine rW ?_;refine rC ?_
   refine nS ?_;refine wc_ret ?_;refine seq_r ?_
   exact ⟨trivial, _, rfl, [], .of rfl rfl rfl rfl rfl ⟨⟨_, rfl, rd_le 3 0 0 zBk false⟩, rfl, trivial⟩ trivial⟩
  | true =>
   have e9 : (!decide (rlineE crashE = s)) = false := by rw [hc]; rfl
   refine sR ?_;refine rN ?_;refine rC ?_;refine nR ?_;refine rQ iS ?_;refine rN ?_;refine rW ?_;refine nR ?_;refine rC ?_;refine rQ (call_r hcut rfl rfl (arg_e (arg_e arg_nil)) (.inl rfl) (fun _ => rfl)) ?_
   refine rC ?_;refine nQ ?_;refine sR ?_;refine rC ?_;refine rQ iE ?_;iterate 2 refine rC ?_
   iterate 4 refine rS ?_
   refine rQ iF ?_;refine nS ?_;refine wG ?_;refine kS ?_;refine qR ?_;refine rC ?_;refine rQ iE ?_;iterate 2 refine rC ?_
   iterate 4 refine rS ?_
   refine rQ iF ?_;refine nS ?_;refine wG ?_;refine kS ?_;refine qR ?_;refine rQ iM ?_;refine rQ (call_r hline rfl rfl (arg_e arg_nil) (.inl rfl) (fun _ => rfl)) ?_
   refine rC ?_;refine rQ (neq_s (a := rlineE crashE) (b := s) tab_ok rfl rfl rfl) ?_;refine nS ?_;refine wF ?_;refine kS ?_;refine sR ?_;refine rQ iM ?_;refine rW ?_
   refine rC ?_;refine nS ?_;refine wc_ret ?_
   exact ⟨trivial, _, rfl, [], .of rfl rfl rfl rfl rfl ⟨⟨_, rfl, rd_le 3 0 0 zBk true⟩, rfl, trivial⟩ trivial⟩
theorem rd_inv_w (s a b : List UInt8) (ws : List (List UInt8)) (hW : splitL s 32 = a :: b :: ws) (hwp : 0 < ws.length) (hs : s.length ≤ 1048575) (ha : a = sInvoke) (hjl : (joinL ws).length ≤ 1048575) (hbl : b.length ≤ 1048575)
  (n iv ov : Int) (p : POp) (Y : HEv) (B : Bool) (hn : n = (intR b).getD 0) (hiv : iv = o1 (intR b)) (hp : p = (readP (joinL ws)).getD opNil) (hov : ov = o1 (readP (joinL ws)))
  (hYB : (Y = crashE ∧ B = false ∧ (readP (joinL ws) = none ∨ intR b = none ∨ ¬ p.data.length ≤ 64)) ∨ (readP (joinL ws) = some p ∧ intR b = some n ∧ p.data.length ≤ 64 ∧ Y = ⟨1, n, p, zBk, 0⟩ ∧ B = decide (rlineE Y = s))) :
  FnIs Tryz.prog 70 [.d (strD s)] [] (rdR Y B) [] := by
 have hcut := rcut_is s 32 hs
 rw [hW] at hcut
 have hwl : ws.length ≤ 1048575 := by
  have := splitL_len s 32
  rw [hW] at this
  simp only [List.length_cons] at this
  omega
 have hlv : (a :: b :: ws).length = ws.length + 2 := rfl
 have e2 : decide ((2 : Int) < ((a :: b :: ws).length : Int)) = true := dT (by omega)
 have g0 : (a :: b :: ws)[((0 : Int)).toNat]? = some a := rfl
 have g1 : (a :: b :: ws)[((1 : Int)).toNat]? = some b := rfl
 have d1 : decide (a = sInvoke) = true := dT ha
 have d2 : decide (a = sReturn) = false := dF (by rw [ha]; decide)
 have hrd := rread_is (joinL ws) hjl
 have hint := rint_is b (by omega)
 unfold intRes at hint
 unfold readA at hrd
 rw [← hn, ← hiv] at hint
 rw [← hp, ← hov] at hrd
 refine fnIs_of tab_ok Tryz.func70 rfl rfl rfl ?_;refine sR ?_;refine rN ?_;refine rC ?_;refine nR ?_;refine rQ iS ?_;refine rN ?_;refine rW ?_;refine nR ?_;refine rC ?_
 refine rQ (call_r hcut rfl rfl (arg_e (arg_e arg_nil)) (.inl rfl) (fun _ => rfl)) ?_;refine rC ?_;refine nQ ?_;refine sR ?_;refine rC ?_;refine rQ iE ?_;iterate 2 refine rC ?_
 refine rO ?_;refine rC ?_;refine rO ?_;refine rQ (index_arr (xs := a :: b :: ws) tab_ok rfl rfl rfl rfl rfl (by omega) g0) ?_;refine rO ?_;refine rQ iL ?_;refine rO ?_
 refine rQ (eql_s (a := a) (b := sInvoke) tab_ok rfl rfl rfl) ?_;refine rQ iT ?_;refine nS ?_;refine wT ?_;refine sR ?_;refine rC ?_;refine nQ ?_;refine sR ?_;refine rC ?_
 refine nS ?_;refine wc_block ?_
 refine wc_inv (fun k : Nat => ⟨[(0, .d (strD s)), (2, .ptr 64 []), (4, .ptr 65 []), (5, .d (.arr 1 strD (a :: b :: ws))), (6, .d (strD (joinP ws k))), (7, .int .i64 ((2 + k : Nat) : Int))], [(64, some (.box 59 (.d (.cons (u8s 0) (.cons (i6 0) (.cons zPOp (.cons (.vec 32 1 encU8 (List.replicate 32 0)) (.cons (i6 0) .nil)))))))), (65, some (.box 59 (.d (.cons (u8s 3) (.cons (i6 0) (.cons zPOp (.cons (.vec 32 1 encU8 (List.replicate 32 0)) (.cons (i6 0) .nil))))))))], 72, Tryz.f70.ntmps, 64⟩) (fun k => k ≤ ws.length) (fun k => ws.length - k) 0 [(64, some 64), (65, some 88)] (Nat.zero_le _)
  (.of rfl rfl rfl rfl rfl ⟨⟨_, rfl, .refl _⟩, rfl, ⟨_, rfl, .refl _⟩, rfl, ⟨_, rfl, .refl _⟩, rfl, ⟨_, rfl, .refl _⟩, rfl, ⟨_, rfl, AVLe.of_eq (by rw [joinP_zero hwp]; rfl)⟩, rfl, ⟨_, rfl, .refl _⟩, rfl, trivial⟩ ⟨⟨rfl, rfl, _, rfl, .refl _⟩, ⟨rfl, rfl, _, rfl, .refl _⟩, trivial⟩) ?_
 intro k hk
 refine wc_of ?_
 by_cases hlt : k < ws.length
 ·have c1 : decide (((2 + k : Nat) : Int) < ((a :: b :: ws).length : Int)) = true := dT (by omega)
  obtain ⟨x, hx⟩ : ∃ x, ws[k]? = some x := ⟨_, List.getElem?_eq_getElem hlt⟩
  have gk : (a :: b :: ws)[(((2 + k : Nat) : Int)).toNat]? = some x := by rw [Int.toNat_natCast, Nat.add_comm]; exact hx
  have hlen := joinP_len hx
  have hwk : IntKind.i64.wrap (((2 + k : Nat) : Int) + 1) = ((2 + (k + 1) : Nat) : Int) := wrap_i64 (by omega) (by omega)
  by_cases hk1 : k + 1 < ws.length
  ·have c2 : decide (((2 + k : Nat) : Int) < ((a :: b :: ws).length : Int) - 1) = true := dT (by omega)
   have hnx := joinP_next hx hk1
   have hl2 := hlen.2 hk1
   refine qR ?_;iterate 2 refine rC ?_
   refine rQ iE ?_;refine rC ?_;refine nS ?_;refine wT ?_;refine kS ?_;refine wc_seq ?_;refine wc_block ?_;refine sR ?_;iterate 3 refine rC ?_
   refine rQ (index_arr (xs := a :: b :: ws) tab_ok rfl rfl rfl rfl rfl (by omega) gk) ?_;refine rQ iL ?_;refine rQ (add_str (a := joinP ws k) (b := x) rfl rfl (by omega) rfl) ?_
   refine rC ?_;refine nR ?_;iterate 2 refine rC ?_
   refine rQ iE ?_;refine rQ (sub_int tab_ok rfl rfl (wrap_i64 (by omega) (by omega))) ?_;refine rC ?_;refine nS ?_;refine wT ?_;refine wc_region ?_;refine rC ?_
   refine rQ (add_str (a := joinP ws k ++ x) (b := [32]) rfl rfl (by simp only [List.length_append, List.length_singleton]; omega) rfl) ?_
   refine rC ?_;refine reg_nil ?_;refine blk_n ?_;refine seq_n ?_;refine wc_region ?_;refine rC ?_;refine rQ (add_int (m := ((2 + (k + 1) : Nat) : Int)) tab_ok rfl rfl hwk) ?_
   refine rC ?_;refine reg_nil ?_
   exact loop_n (k + 1) [(64, some 64), (65, some 65)] (show k + 1 ≤ ws.length by omega) (by show ws.length - (k + 1) < ws.length - k; omega) (.of rfl rfl rfl rfl rfl ⟨⟨_, rfl, .refl _⟩, rfl, ⟨_, rfl, .refl _⟩, rfl, ⟨_, rfl, .refl _⟩, rfl, ⟨_, rfl, .refl _⟩, rfl, ⟨_, rfl, AVLe.of_eq (congrArg (fun l => AV.d (strD l)) hnx.symm)⟩, rfl, ⟨_, rfl, .refl _⟩, rfl, trivial⟩ ⟨⟨rfl, rfl, _, rfl, .refl _⟩, ⟨rfl, rfl, _, rfl, .refl _⟩, trivial⟩)
  ·have c2 : decide (((2 + k : Nat) : Int) < ((a :: b :: ws).length : Int) - 1) = false := dF (by omega)
   have hnx := joinP_last hx (show k + 1 = ws.length by omega)
   refine qR ?_;iterate 2 refine rC ?_
   refine rQ iE ?_;refine rC ?_;refine nS ?_;refine wT ?_;refine kS ?_;refine wc_seq ?_;refine wc_block ?_;refine sR ?_;iterate 3 refine rC ?_
   refine rQ (index_arr (xs := a :: b :: ws) tab_ok rfl rfl rfl rfl rfl (by omega) gk) ?_;refine rQ iL ?_;refine rQ (add_str (a := joinP ws k) (b := x) rfl rfl (by omega) rfl) ?_
   refine rC ?_;refine nR ?_;iterate 2 refine rC ?_
   refine rQ iE ?_;refine rQ (sub_int tab_ok rfl rfl (wrap_i64 (by omega) (by omega))) ?_;refine rC ?_;refine nS ?_;refine wF ?_;refine wc_skip ?_;refine blk_n ?_;refine seq_n ?_
   refine wc_region ?_;refine rC ?_;refine rQ (add_int (m := ((2 + (k + 1) : Nat) : Int)) tab_ok rfl rfl hwk) ?_;refine rC ?_;refine reg_nil ?_
   exact loop_n (k + 1) [(64, some 64), (65, some 65)] (show k + 1 ≤ ws.length by omega) (by show ws.length - (k + 1) < ws.length - k; omega) (.of rfl rfl rfl rfl rfl ⟨⟨_, rfl, .refl _⟩, rfl, ⟨_, rfl, .refl _⟩, rfl, ⟨_, rfl, .refl _⟩, rfl, ⟨_, rfl, .refl _⟩, rfl, ⟨_, rfl, AVLe.of_eq (congrArg (fun l => AV.d (strD l)) hnx.symm)⟩, rfl, ⟨_, rfl, .refl _⟩, rfl, trivial⟩ ⟨⟨rfl, rfl, _, rfl, .refl _⟩, ⟨rfl, rfl, _, rfl, .refl _⟩, trivial⟩)
 ·have c1 : decide (((2 + k : Nat) : Int) < ((a :: b :: ws).length : Int)) = false := dF (by omega)
  have hke : k = ws.length := by omega
  subst hke
  rw [joinP_end]
  rcases hYB with ⟨hY, hB, hno⟩ | ⟨h1, h2, h3, hY, hB⟩
  ·rw [hY, hB]
   cases hrp : readP (joinL ws) with
   | none =>
    rw [hrp] at hov
    have hov0 : ov = 0 := hov
    subst hov0
    have hmz : IntKind.i64.wrap ((0 : Int) * iv) = 0 := by rw [Int.zero_mul]; rfl
    refine qR ?_;iterate 2 refine rC ?_
    refine rQ iE ?_;refine rC ?_;refine nS ?_;refine wF ?_;refine wc_exit ?_;refine seq_x ?_;refine loop_x ?_;refine blk_x ?_;refine seq_n ?_;refine sR ?_;refine rC ?_
    refine rQ (call_r hrd rfl rfl (arg_e arg_nil) (.inl rfl) (fun _ => rfl)) ?_;iterate 3 refine rC ?_
    refine rN ?_;refine rW ?_;refine rC ?_;refine nR ?_;refine rC ?_;refine rQ (index_arr (xs := a :: b :: ws) tab_ok rfl rfl rfl rfl rfl (by omega) g1) ?_;refine rQ iL ?_
    refine rQ (call_r hint rfl rfl (arg_e arg_nil) (.inl rfl) (fun _ => rfl)) ?_;iterate 5 refine rC ?_
    refine nQ ?_;refine sR ?_;iterate 2 refine rC ?_
    refine rQ (mul_int (m := 0) tab_ok rfl rfl hmz) ?_;iterate 2 refine rC ?_
    iterate 4 refine rT ?_
    refine rQ iU ?_;refine nS ?_;refine wV ?_;refine sR ?_;refine rQ iM ?_;refine rW ?_;refine rC ?_;refine nS ?_;refine wc_ret ?_;iterate 2 refine seq_r ?_
    exact ⟨trivial, _, rfl, [], .of rfl rfl rfl rfl rfl ⟨⟨_, rfl, rd_le 3 0 0 zBk false⟩, rfl, trivial⟩ trivial⟩
   | some q =>
    rw [hrp] at hov
    have hov1 : ov = 1 := hov
    subst hov1
    cases hib : intR b with
    | none =>
     rw [hib] at hiv
     have hiv0 : iv = 0 := hiv
     subst hiv0
     refine qR ?_;iterate 2 refine rC ?_
     refine rQ iE ?_;refine rC ?_;refine nS ?_;refine wF ?_;refine wc_exit ?_;refine seq_x ?_;refine loop_x ?_;refine blk_x ?_;refine seq_n ?_;refine sR ?_;refine rC ?_
     refine rQ (call_r hrd rfl rfl (arg_e arg_nil) (.inl rfl) (fun _ => rfl)) ?_;iterate 3 refine rC ?_
     refine rN ?_;refine rW ?_;refine rC ?_;refine nR ?_;refine rC ?_;refine rQ (index_arr (xs := a :: b :: ws) tab_ok rfl rfl rfl rfl rfl (by omega) g1) ?_;refine rQ iL ?_
     refine rQ (call_r hint rfl rfl (arg_e arg_nil) (.inl rfl) (fun _ => rfl)) ?_;iterate 5 refine rC ?_
     refine nQ ?_;refine sR ?_;iterate 2 refine rC ?_
     refine rQ (mul_int (m := 0) tab_ok rfl rfl rfl) ?_;iterate 2 refine rC ?_
     iterate 4 refine rT ?_
     refine rQ iU ?_;refine nS ?_;refine wV ?_;refine sR ?_;refine rQ iM ?_;refine rW ?_;refine rC ?_;refine nS ?_;refine wc_ret ?_;iterate 2 refine seq_r ?_
     exact ⟨trivial, _, rfl, [], .of rfl rfl rfl rfl rfl ⟨⟨_, rfl, rd_le 3 0 0 zBk false⟩, rfl, trivial⟩ trivial⟩
    | some m =>
     rw [hib] at hiv
     have hiv1 : iv = 1 := hiv
     subst hiv1
     have hd : ¬ p.data.length ≤ 64 := by
      rcases hno with h | h | h
      ·rw [hrp] at h; cases h
      ·rw [hib] at h; cases h
      ·exact h
     have e64 : decide ((64 : Int) < ((byI p.data).length : Int)) = true := dT (by rw [byI_len]; omega)
     refine qR ?_;iterate 2 refine rC ?_
     refine rQ iE ?_;refine rC ?_;refine nS ?_;refine wF ?_;refine wc_exit ?_;refine seq_x ?_;refine loop_x ?_;refine blk_x ?_;refine seq_n ?_;refine sR ?_;refine rC ?_
     refine rQ (call_r hrd rfl rfl (arg_e arg_nil) (.inl rfl) (fun _ => rfl)) ?_;iterate 3 refine rC ?_
     refine rN ?_;refine rW ?_;refine rC ?_;refine nR ?_;refine rC ?_;refine rQ (index_arr (xs := a :: b :: ws) tab_ok rfl rfl rfl rfl rfl (by omega) g1) ?_;refine rQ iL ?_
     refine rQ (call_r hint rfl rfl (arg_e arg_nil) (.inl rfl) (fun _ => rfl)) ?_;iterate 5 refine rC ?_
     refine nQ ?_;refine sR ?_;iterate 2 refine rC ?_
     refine rQ (mul_int (m := 1) tab_ok rfl rfl rfl) ?_;iterate 2 refine rC ?_
     refine rP ?_;refine rC ?_;refine rP ?_;refine rQ iB ?_;refine rP ?_;refine rQ iE ?_;refine rP ?_;refine rC ?_;refine rQ iG ?_;refine nS ?_;refine wT ?_;refine sR ?_
     refine rQ iM ?_;refine rW ?_;refine rC ?_;refine nS ?_;refine wc_ret ?_;iterate 2 refine seq_r ?_
     exact ⟨trivial, _, rfl, [], .of rfl rfl rfl rfl rfl ⟨⟨_, rfl, rd_le 3 0 0 zBk false⟩, rfl, trivial⟩ trivial⟩
  ·obtain ⟨_, hn0, hn1⟩ := int_some h2
   have hpo := (readP_some h1).2
   rw [h1] at hov
   rw [h2] at hiv
   have hov1 : ov = 1 := hov
   have hiv1 : iv = 1 := hiv
   subst hov1 hiv1
   have e64 : decide ((64 : Int) < ((byI p.data).length : Int)) = false := dF (by rw [byI_len]; omega)
   have hline := rline24_is ⟨1, n, p, zBk, 0⟩ ⟨show (0 : Int) ≤ 1 ∧ (1 : Int) ≤ 255 by decide, ⟨hn0, hn1⟩, hpo, rfl, show (-9223372036854775808 : Int) ≤ 0 ∧ (0 : Int) ≤ 9223372036854775807 by decide⟩ (show p.data.length ≤ 1000000 by omega)
   rw [hY] at hB
   obtain ⟨z, hz⟩ : ∃ z, decide (rlineE ⟨1, n, p, zBk, 0⟩ = s) = z := ⟨_, rfl⟩
   rw [hz] at hB
   rw [hY, hB]
   cases z with
   | false =>
    have e9 : (!decide (rlineE ⟨1, n, p, zBk, 0⟩ = s)) = true := by rw [hz]; rfl
    refine qR ?_;iterate 2 refine rC ?_
    refine rQ iE ?_;refine rC ?_;refine nS ?_;refine wF ?_;refine wc_exit ?_;refine seq_x ?_;refine loop_x ?_;refine blk_x ?_;refine seq_n ?_;refine sR ?_;refine rC ?_
    refine rQ (call_r hrd rfl rfl (arg_e arg_nil) (.inl rfl) (fun _ => rfl)) ?_;iterate 3 refine rC ?_
    refine rN ?_;refine rW ?_;refine rC ?_;refine nR ?_;refine rC ?_;refine rQ (index_arr (xs := a :: b :: ws) tab_ok rfl rfl rfl rfl rfl (by omega) g1) ?_;refine rQ iL ?_
    refine rQ (call_r hint rfl rfl (arg_e arg_nil) (.inl rfl) (fun _ => rfl)) ?_;iterate 5 refine rC ?_
    refine nQ ?_;refine sR ?_;iterate 2 refine rC ?_
    refine rQ (mul_int (m := 1) tab_ok rfl rfl rfl) ?_;iterate 2 refine rC ?_
    refine rP ?_;refine rC ?_;refine rP ?_;refine rQ iB ?_;refine rP ?_;refine rQ iE ?_;refine rP ?_;refine rC ?_;refine rQ iG ?_;refine nS ?_;refine wF ?_;refine kS ?_
    refine wc_region ?_;refine rC ?_;refine rQ iM ?_;refine rQ iS ?_;refine rW ?_;refine nQ ?_;refine sR ?_;refine rC ?_;refine rQ iE ?_;iterate 2 refine rC ?_
    refine rO ?_;refine rC ?_;refine rO ?_;refine rQ (index_arr (xs := a :: b :: ws) tab_ok rfl rfl rfl rfl rfl (by omega) g0) ?_;refine rO ?_;refine rQ iL ?_;refine rO ?_
    refine rQ (eql_s (a := a) (b := sReturn) tab_ok rfl rfl rfl) ?_;refine rQ iT ?_;refine nS ?_;refine wF ?_;refine kS ?_;refine qR ?_;refine rQ iM ?_;refine rQ (call_r hline rfl rfl (arg_e arg_nil) (.inl rfl) (fun _ => rfl)) ?_
    refine rC ?_;refine rQ (neq_s (a := rlineE ⟨1, n, p, zBk, 0⟩) (b := s) tab_ok rfl rfl rfl) ?_;refine nS ?_;refine wT ?_;refine sR ?_;refine rQ iM ?_;refine rW ?_
    refine rC ?_;refine nS ?_;refine wc_ret ?_;refine seq_r ?_
    exact ⟨trivial, _, rfl, [], lf⟩
   | true =>
    have e9 : (!decide (rlineE ⟨1, n, p, zBk, 0⟩ = s)) = false := by rw [hz]; rfl
    refine qR ?_;iterate 2 refine rC ?_
    refine rQ iE ?_;refine rC ?_;refine nS ?_;refine wF ?_;refine wc_exit ?_;refine seq_x ?_;refine loop_x ?_;refine blk_x ?_;refine seq_n ?_;refine sR ?_;refine rC ?_
    refine rQ (call_r hrd rfl rfl (arg_e arg_nil) (.inl rfl) (fun _ => rfl)) ?_;iterate 3 refine rC ?_
    refine rN ?_;refine rW ?_;refine rC ?_;refine nR ?_;refine rC ?_;refine rQ (index_arr (xs := a :: b :: ws) tab_ok rfl rfl rfl rfl rfl (by omega) g1) ?_;refine rQ iL ?_
    refine rQ (call_r hint rfl rfl (arg_e arg_nil) (.inl rfl) (fun _ => rfl)) ?_;iterate 5 refine rC ?_
    refine nQ ?_;refine sR ?_;iterate 2 refine rC ?_
    refine rQ (mul_int (m := 1) tab_ok rfl rfl rfl) ?_;iterate 2 refine rC ?_
    refine rP ?_;refine rC ?_;refine rP ?_;refine rQ iB ?_;refine rP ?_;refine rQ iE ?_;refine rP ?_;refine rC ?_;refine rQ iG ?_;refine nS ?_;refine wF ?_;refine kS ?_
    refine wc_region ?_;refine rC ?_;refine rQ iM ?_;refine rQ iS ?_;refine rW ?_;refine nQ ?_;refine sR ?_;refine rC ?_;refine rQ iE ?_;iterate 2 refine rC ?_
    refine rO ?_;refine rC ?_;refine rO ?_;refine rQ (index_arr (xs := a :: b :: ws) tab_ok rfl rfl rfl rfl rfl (by omega) g0) ?_;refine rO ?_;refine rQ iL ?_;refine rO ?_
    refine rQ (eql_s (a := a) (b := sReturn) tab_ok rfl rfl rfl) ?_;refine rQ iT ?_;refine nS ?_;refine wF ?_;refine kS ?_;refine qR ?_;refine rQ iM ?_;refine rQ (call_r hline rfl rfl (arg_e arg_nil) (.inl rfl) (fun _ => rfl)) ?_
    refine rC ?_;refine rQ (neq_s (a := rlineE ⟨1, n, p, zBk, 0⟩) (b := s) tab_ok rfl rfl rfl) ?_;refine nS ?_;refine wF ?_;refine kS ?_;refine sR ?_;refine rQ iM ?_
    refine rW ?_;refine rC ?_;refine nS ?_;refine wc_ret ?_
    exact ⟨trivial, _, rfl, [], lf⟩
def errs4 : List Int := [0, 1, 8, 9]
def keyUp (c : List UInt8) (i : Nat) : Int := (errs4.take i).foldl (fun a e => if rword e = c then e else a) 0
theorem keyUp_next {c : List UInt8} {i : Nat} {e : Int} (h : errs4[i]? = some e) : keyUp c (i + 1) = if rword e = c then e else keyUp c i := by
 rw [keyUp, List.take_add_one, h]; simp [keyUp, List.foldl_append]
theorem keyUp_end (c : List UInt8) : keyUp c 4 = keyR c := by
 have h1 : rword 1 = sArg := rfl
 have h8 : rword 8 = sNonce := rfl
 have h9 : rword 9 = sInteg := rfl
 have h0 : rword 0 = sOk := rfl
 have n1 : sNonce ≠ sArg := by decide
 have n2 : sInteg ≠ sArg := by decide
 have n3 : sInteg ≠ sNonce := by decide
 have n4 : sOk ≠ sArg := by decide
 have n5 : sOk ≠ sNonce := by decide
 have n6 : sOk ≠ sInteg := by decide
 simp only [keyUp, errs4, List.take, List.foldl, h0, h1, h8, h9, keyR]
 by_cases a : c = sArg
 ·subst a; simp [n1, n2, n4]
 by_cases b : c = sNonce
 ·subst b; simp [n1, n3, n1.symm]
 by_cases d : c = sInteg
 ·subst d; simp [n2, n3]
 ·simp [a, b, d, Ne.symm a, Ne.symm b, Ne.symm d]
def cpL (l : List Int) (i : Nat) : List Int := l.take i ++ List.replicate (32 - i) 0
theorem cpL_get {l : List Int} {i : Nat} (hl : l.length = 32) (h : i < 32) : (cpL l i)[i]? = some 0 := by
 have h1 : (l.take i).length = i := by rw [List.length_take]; omega
 rw [cpL, List.getElem?_append_right (by omega), h1, Nat.sub_self, List.getElem?_replicate, if_pos (by omega)]
theorem cpL_set {l : List Int} {i : Nat} {v : Int} (hl : l.length = 32) (h : i < 32) (hv : l[i]? = some v) : (cpL l i).set i v = cpL l (i + 1) := by
 have h1 : (l.take i).length = i := by rw [List.length_take]; omega
 rw [cpL, cpL, List.set_append_right _ _ (by omega), h1, Nat.sub_self, show 32 - i = (32 - (i + 1)) + 1 by omega, List.replicate_succ, List.set_cons_zero, List.take_add_one, hv]
 simp
abbrev rvBox (n e : Int) (v : List Int) : Row := .box 59 (.d (.cons (u8s 2) (.cons (i6 n) (.cons zPOp (.cons (.vec 32 1 encU8 v) (.cons (i6 e) .nil))))))
theorem rd_ret (s a b c : List UInt8) (r : List (List UInt8)) (hW : splitL s 32 = a :: b :: c :: r) (hs : s.length ≤ 1048575) (ha : a = sReturn) (hbl : b.length ≤ 1048575) (hrl : ∀ d ∈ r, d.length ≤ 1048575) (k0 n iv : Int) (Y : HEv) (B : Bool) (hk : keyR c = k0) (hn : n = (intR b).getD 0) (hiv : iv = o1 (intR b)) (hY : Y = ⟨2, n, zOp, (valR k0 r).getD zBk, k0⟩) (hB : B = ((valR k0 r).isSome && (intR b).isSome && decide (rlineE Y = s))) :
  FnIs Tryz.prog 70 [.d (strD s)] [] (rdR Y B) [] := by
 have hcut := rcut_is s 32 hs
 rw [hW] at hcut
 have hwl : r.length ≤ 1048575 := by
  have := splitL_len s 32
  rw [hW] at this
  simp only [List.length_cons] at this
  omega
 have hlv : (a :: b :: c :: r).length = r.length + 3 := rfl
 have e2 : decide ((2 : Int) < ((a :: b :: c :: r).length : Int)) = true := dT (by omega)
 have g0 : (a :: b :: c :: r)[((0 : Int)).toNat]? = some a := rfl
 have g1 : (a :: b :: c :: r)[((1 : Int)).toNat]? = some b := rfl
 have g2 : (a :: b :: c :: r)[((2 : Int)).toNat]? = some c := rfl
 have d1 : decide (a = sInvoke) = false := dF (by rw [ha]; decide)
 have d2 : decide (a = sReturn) = true := dT ha
 have hint := rint_is b (by omega)
 unfold intRes at hint
 rw [← hn, ← hiv] at hint
 have hkn := kn4_out (keyR_kn c)
 rw [hk] at hkn
 refine fnIs_of tab_ok Tryz.func70 rfl rfl rfl ?_;refine sR ?_;refine rN ?_;refine rC ?_;refine nR ?_;refine rQ iS ?_;refine rN ?_;refine rW ?_;refine nR ?_;refine rC ?_
 refine rQ (call_r hcut rfl rfl (arg_e (arg_e arg_nil)) (.inl rfl) (fun _ => rfl)) ?_;refine rC ?_;refine nQ ?_;refine sR ?_;refine rC ?_;refine rQ iE ?_;iterate 2 refine rC ?_
 refine rO ?_;refine rC ?_;refine rO ?_;refine rQ (index_arr (xs := a :: b :: c :: r) tab_ok rfl rfl rfl rfl rfl (by omega) g0) ?_;refine rO ?_;refine rQ iL ?_;refine rO ?_
 refine rQ (eql_s (a := a) (b := sInvoke) tab_ok rfl rfl rfl) ?_;refine rQ iT ?_;refine nS ?_;refine wF ?_;refine kS ?_;refine qR ?_;refine rC ?_;refine rQ iE ?_
 iterate 2 refine rC ?_
 refine rO ?_;refine rC ?_;refine rO ?_;refine rQ (index_arr (xs := a :: b :: c :: r) tab_ok rfl rfl rfl rfl rfl (by omega) g0) ?_;refine rO ?_;refine rQ iL ?_;refine rO ?_
 refine rQ (eql_s (a := a) (b := sReturn) tab_ok rfl rfl rfl) ?_;refine rQ iT ?_;refine nS ?_;refine wT ?_;refine sR ?_;refine rC ?_;refine rQ (index_arr (xs := a :: b :: c :: r) tab_ok rfl rfl rfl rfl rfl (by omega) g1) ?_
 refine rQ iL ?_;refine rQ (call_r hint rfl rfl (arg_e arg_nil) (.inl rfl) (fun _ => rfl)) ?_;iterate 5 refine rC ?_
 refine nR ?_;refine rC ?_;refine rQ iS ?_;refine rW ?_;refine nQ ?_;refine sR ?_;refine rC ?_;refine nS ?_;refine wc_block ?_
 refine wc_inv (fun i : Nat => ⟨[(0, .d (strD s)), (2, .ptr 64 []), (4, .ptr 65 []), (5, .d (.arr 1 strD (a :: b :: c :: r))), (13, .int .i64 iv), (14, .int .i64 (i : Nat))], [(64, some (.box 59 (.d (.cons (u8s 0) (.cons (i6 0) (.cons zPOp (.cons (.vec 32 1 encU8 (List.replicate 32 0)) (.cons (i6 0) .nil)))))))), (65, some (rvBox n (keyUp c i) (List.replicate 32 0)))], 72, Tryz.f70.ntmps, 64⟩) (fun i => i ≤ 4) (fun i => 4 - i) 0 [(64, some 64), (65, some 88)] (Nat.zero_le _)
  (.of rfl rfl rfl rfl rfl ⟨⟨_, rfl, .refl _⟩, rfl, ⟨_, rfl, .refl _⟩, rfl, ⟨_, rfl, .refl _⟩, rfl, ⟨_, rfl, .refl _⟩, rfl, ⟨_, rfl, .refl _⟩, rfl, ⟨_, rfl, .refl _⟩, rfl, trivial⟩ ⟨⟨rfl, rfl, _, rfl, .refl _⟩, ⟨rfl, rfl, _, rfl, .refl _⟩, trivial⟩) ?_
 intro i hi
 refine wc_of ?_
 by_cases hlt : i < 4
 ·have c1 : decide ((i : Int) < 4) = true := dT (by omega)
  obtain ⟨e, he⟩ : ∃ e, errs4[i]? = some e := ⟨_, List.getElem?_eq_getElem hlt⟩
  have hE : errs4[((i : Int)).toNat]? = some e := by rw [Int.toNat_natCast]; exact he
  have hnx := keyUp_next (c := c) he
  by_cases hec : rword e = c
  ·have dc : decide (rword e = c) = true := dT hec
   rw [if_pos hec] at hnx
   refine qR ?_;iterate 2 refine rC ?_
   refine nS ?_;refine wT ?_;refine kS ?_;refine wc_seq ?_;refine wc_block ?_;refine sR ?_;refine rQ (StepIs.frozen (build_slice (s := 1) tab_ok rfl rfl rfl rfl rfl rfl rfl rfl) (Frz.litsN (enc := i6) [0, 1, 8, 9] rfl (fun _ _ => rfl))) ?_
   refine rC ?_;refine rQ (index_arr (xs := errs4) tab_ok rfl rfl rfl rfl rfl (by omega) hE) ?_;refine rQ iL ?_;refine rC ?_;refine nQ ?_;refine wc_draw (by kernel_rfl) ?_
   refine dC [15] [] ?_;refine dQ [102] [] (call_r (rword_is e) rfl rfl (arg_e arg_nil) (.inl rfl) (fun _ => rfl)) ?_;refine dC [5] [] ?_;refine dQ [104] [] (index_arr (xs := a :: b :: c :: r) tab_ok rfl rfl rfl rfl rfl (by omega) g2) ?_
   refine dQ [105] [] iL ?_;refine dQ [103, 106] [] (eql_s (a := rword e) (b := c) tab_ok rfl rfl rfl) ?_;refine dreg_end (by kernel_rfl) ?_;refine seq_n ?_;refine wT ?_
   refine wc_region ?_;iterate 2 refine rC ?_
   refine rX ?_;refine reg_nil ?_;refine blk_n ?_;refine seq_n ?_;refine wc_region ?_;refine rC ?_;refine rQ iD ?_;refine rC ?_;refine reg_nil ?_
   exact loop_n (i + 1) [(64, some 64), (65, some 65)] hlt (by omega) (.of rfl rfl rfl rfl rfl ⟨⟨_, rfl, .refl _⟩, rfl, ⟨_, rfl, .refl _⟩, rfl, ⟨_, rfl, .refl _⟩, rfl, ⟨_, rfl, .refl _⟩, rfl, ⟨_, rfl, .refl _⟩, rfl, ⟨_, rfl, .refl _⟩, rfl, trivial⟩ ⟨⟨rfl, rfl, _, rfl, .refl _⟩, ⟨rfl, rfl, _, rfl, RowLe.of_eq (congrArg (fun e => rvBox n e (List.replicate 32 0)) hnx.symm)⟩, trivial⟩)
  ·have dc : decide (rword e = c) = false := dF hec
   rw [if_neg hec] at hnx
   refine qR ?_;iterate 2 refine rC ?_
   refine nS ?_;refine wT ?_;refine kS ?_;refine wc_seq ?_;refine wc_block ?_;refine sR ?_;refine rQ (StepIs.frozen (build_slice (s := 1) tab_ok rfl rfl rfl rfl rfl rfl rfl rfl) (Frz.litsN (enc := i6) [0, 1, 8, 9] rfl (fun _ _ => rfl))) ?_
   refine rC ?_;refine rQ (index_arr (xs := errs4) tab_ok rfl rfl rfl rfl rfl (by omega) hE) ?_;refine rQ iL ?_;refine rC ?_;refine nQ ?_;refine wc_draw (by kernel_rfl) ?_
   refine dC [15] [] ?_;refine dQ [102] [] (call_r (rword_is e) rfl rfl (arg_e arg_nil) (.inl rfl) (fun _ => rfl)) ?_;refine dC [5] [] ?_;refine dQ [104] [] (index_arr (xs := a :: b :: c :: r) tab_ok rfl rfl rfl rfl rfl (by omega) g2) ?_
   refine dQ [105] [] iL ?_;refine dQ [103, 106] [] (eql_s (a := rword e) (b := c) tab_ok rfl rfl rfl) ?_;refine dreg_end (by kernel_rfl) ?_;refine seq_n ?_;refine wF ?_
   refine wc_skip ?_;refine blk_n ?_;refine seq_n ?_;refine wc_region ?_;refine rC ?_;refine rQ iD ?_;refine rC ?_;refine reg_nil ?_
   exact loop_n (i + 1) [(64, some 64), (65, some 65)] hlt (by omega) (.of rfl rfl rfl rfl rfl ⟨⟨_, rfl, .refl _⟩, rfl, ⟨_, rfl, .refl _⟩, rfl, ⟨_, rfl, .refl _⟩, rfl, ⟨_, rfl, .refl _⟩, rfl, ⟨_, rfl, .refl _⟩, rfl, ⟨_, rfl, .refl _⟩, rfl, trivial⟩ ⟨⟨rfl, rfl, _, rfl, .refl _⟩, ⟨rfl, rfl, _, rfl, RowLe.of_eq (congrArg (fun e => rvBox n e (List.replicate 32 0)) hnx.symm)⟩, trivial⟩)
 ·have c1 : decide ((i : Int) < 4) = false := dF (by omega)
  have hie : i = 4 := by omega
  subst hie
  rw [keyUp_end, hk]
  by_cases hr1 : r.length = 1
  ·have e4 : decide (((a :: b :: c :: r).length : Int) = 4) = true := dT (by omega)
   obtain ⟨d, hd⟩ : ∃ d, r = [d] := List.length_eq_one_iff.1 hr1
   have g3 : (a :: b :: c :: r)[((3 : Int)).toNat]? = some d := by rw [hd]; rfl
   have hby := rbytes_is d (hrl d (by rw [hd]; simp))
   cases hub : unhexP d with
   | none =>
    rw [hub] at hby
    have hvn : valR k0 r = none := by rw [hd, valR, hub]
    have hB0 : B = false := by rw [hB, hvn]; rfl
    have hYz : Y = ⟨2, n, zOp, zBk, k0⟩ := by rw [hY, hvn]; rfl
    rw [hYz, hB0]
    refine qR ?_;iterate 2 refine rC ?_
    refine nS ?_;refine wG ?_;refine wc_exit ?_;refine seq_x ?_;refine loop_x ?_;refine blk_x ?_;refine seq_n ?_;refine qR ?_;refine rC ?_;refine rQ iE ?_;refine rC ?_
    refine nS ?_;refine wT ?_;refine sR ?_;refine rC ?_;refine rQ (index_arr (xs := a :: b :: c :: r) tab_ok rfl rfl rfl rfl rfl (by omega) g3) ?_;refine rQ iL ?_;refine rQ (call_r hby rfl rfl (arg_e arg_nil) (.inl rfl) (fun _ => rfl)) ?_
    iterate 5 refine rC ?_
    refine nQ ?_;refine sR ?_;iterate 3 refine rC ?_
    iterate 3 refine rT ?_
    refine rQ iU ?_;refine rC ?_;iterate 3 refine rT ?_
    refine rQ iU ?_;refine nS ?_;refine wV ?_;refine sR ?_;refine rQ iM ?_;refine rW ?_;refine rC ?_;refine nS ?_;refine wc_ret ?_;iterate 3 refine seq_r ?_
    exact ⟨trivial, _, rfl, [], .of rfl rfl rfl rfl rfl ⟨⟨_, rfl, rd_le 2 n k0 zBk false⟩, rfl, trivial⟩ trivial⟩
   | some t =>
    rw [hub] at hby
    by_cases h32 : t.length = 32
    ·have e32 : (!decide (((byI t).length : Int) = 32)) = false := by rw [dT (by rw [byI_len]; omega)]; rfl
     have hbl : (byI t).length = 32 := by rw [byI_len]; exact h32
     by_cases hk0 : k0 = 0
     ·have ek : (!decide (k0 = 0)) = false := by rw [dT hk0]; rfl
      have hvs : valR k0 r = some t := by rw [hd, valR, hub]; simp only; rw [if_pos ⟨h32, hk0⟩]
      rw [hvs] at hY
      replace hY : Y = ⟨2, n, zOp, t, k0⟩ := hY
      refine qR ?_;iterate 2 refine rC ?_
      refine nS ?_;refine wG ?_;refine wc_exit ?_;refine seq_x ?_;refine loop_x ?_;refine blk_x ?_;refine seq_n ?_;refine qR ?_;refine rC ?_;refine rQ iE ?_;refine rC ?_
      refine nS ?_;refine wT ?_;refine sR ?_;refine rC ?_;refine rQ (index_arr (xs := a :: b :: c :: r) tab_ok rfl rfl rfl rfl rfl (by omega) g3) ?_;refine rQ iL ?_;refine rQ (call_r hby rfl rfl (arg_e arg_nil) (.inl rfl) (fun _ => rfl)) ?_
      iterate 5 refine rC ?_
      refine nQ ?_;refine sR ?_;iterate 3 refine rC ?_
      refine rP ?_;refine rC ?_;refine rP ?_;refine rQ iE ?_;refine rP ?_;refine rC ?_;refine rQ iG ?_;refine rC ?_;refine rO ?_;refine rC ?_;refine rO ?_;refine rQ iB ?_
      refine rO ?_;refine rC ?_;refine rQ iF ?_;refine nS ?_;refine wF ?_;refine kS ?_;refine sR ?_;refine rC ?_;refine nS ?_;refine wc_block ?_
      refine wc_inv (fun i : Nat => ⟨[(0, .d (strD s)), (2, .ptr 64 []), (4, .ptr 65 []), (13, .int .i64 iv), (16, .d (encB t)), (18, .int .i64 (i : Nat))], [(64, some (.box 59 (.d (.cons (u8s 0) (.cons (i6 0) (.cons zPOp (.cons (.vec 32 1 encU8 (List.replicate 32 0)) (.cons (i6 0) .nil)))))))), (65, some (rvBox n k0 (cpL (byI t) i)))], 200, Tryz.f70.ntmps, 64⟩) (fun i => i ≤ 32) (fun i => 32 - i) 0 [(64, some 64), (65, some 65)] (Nat.zero_le _)
       (.of rfl rfl rfl rfl rfl ⟨⟨_, rfl, .refl _⟩, rfl, ⟨_, rfl, .refl _⟩, rfl, ⟨_, rfl, .refl _⟩, rfl, ⟨_, rfl, .refl _⟩, rfl, ⟨_, rfl, .refl _⟩, rfl, ⟨_, rfl, .refl _⟩, rfl, trivial⟩ ⟨⟨rfl, rfl, _, rfl, .refl _⟩, ⟨rfl, rfl, _, rfl, .refl _⟩, trivial⟩) ?_
      intro i hi
      refine wc_of ?_
      by_cases hlt : i < 32
      ·have c1 : decide ((i : Int) < 32) = true := dT (by omega)
       obtain ⟨w, hw⟩ : ∃ w, (byI t)[i]? = some w := ⟨_, List.getElem?_eq_getElem (by omega)⟩
       have gt : (byI t)[((i : Int)).toNat]? = some w := by rw [Int.toNat_natCast]; exact hw
       have gg : (cpL (byI t) i)[((i : Int)).toNat]? = some 0 := by rw [Int.toNat_natCast]; exact cpL_get hbl hlt
       have hnx := cpL_set hbl hlt hw
       refine qR ?_;iterate 2 refine rC ?_
       refine nS ?_;refine wT ?_;refine kS ?_;refine wc_seq ?_;refine wc_block ?_;refine wc_region ?_;iterate 3 refine rC ?_
       refine rQ (index_arr (xs := byI t) tab_ok rfl rfl rfl rfl rfl (by omega) gt) ?_;refine rQ iL ?_;refine rC ?_;refine rQ (step_C tab_ok (fun K hk => ⟨by omega, by omega, hk⟩)) ?_
       refine reg_store (store_row tab_ok rfl rfl rfl ⟨_, ⟨_, ⟨_, ⟨rfl, _, w, gg, ⟨rfl, rfl, rfl⟩, rfl⟩, rfl⟩, rfl⟩, rfl⟩ rfl) ?_;refine reg_nil ?_;refine blk_n ?_;refine seq_n ?_
       refine wc_region ?_;refine rC ?_;refine rQ iD ?_;refine rC ?_;refine reg_nil ?_
       exact loop_n (i + 1) [(64, some 64), (65, some 65)] hlt (by omega) (.of rfl rfl rfl rfl rfl ⟨⟨_, rfl, .refl _⟩, rfl, ⟨_, rfl, .refl _⟩, rfl, ⟨_, rfl, .refl _⟩, rfl, ⟨_, rfl, .refl _⟩, rfl, ⟨_, rfl, .refl _⟩, rfl, ⟨_, rfl, .refl _⟩, rfl, trivial⟩ ⟨⟨rfl, rfl, _, rfl, .refl _⟩, ⟨rfl, rfl, _, rfl, RowLe.of_eq (congrArg (fun l => rvBox n k0 l) hnx)⟩, trivial⟩)
      ·have c1 : decide ((i : Int) < 32) = false := dF (by omega)
       have hie : i = 32 := by omega
       subst hie
       have hcp : cpL (byI t) 32 = byI t := by rw [cpL, List.take_of_length_le (by omega)]; simp
       rw [hcp]
       cases hib : intR b with
       | none =>
        rw [hib] at hn hiv hB
        have hiv0 : iv = 0 := hiv
        subst hiv0
        have hB0 : B = false := by rw [hB]; cases valR k0 r <;> rfl
        rw [hY, hB0]
        refine qR ?_;iterate 2 refine rC ?_
        refine nS ?_;refine wG ?_;refine wc_exit ?_;refine seq_x ?_;refine loop_x ?_;refine blk_x ?_;refine seq_n ?_;refine sR ?_;iterate 2 refine rC ?_
        refine nS ?_;refine wV ?_;refine sR ?_;refine rQ iM ?_;refine rW ?_;refine rC ?_;refine nS ?_;refine wc_ret ?_;refine seq_r ?_
        exact ⟨trivial, _, rfl, [], .of rfl rfl rfl rfl rfl ⟨⟨_, rfl, rd_le 2 n k0 t false⟩, rfl, trivial⟩ trivial⟩
       | some n' =>
        obtain ⟨_, hn0, hn1⟩ := int_some hib
        rw [hib] at hn hiv hB
        have hn' : n = n' := hn
        have hiv1 : iv = 1 := hiv
        subst hn' hiv1
        have hline := FnIs.args_le (zev_args 2 n k0 t) (rline24_is ⟨2, n, zOp, t, k0⟩ ⟨show (0 : Int) ≤ 2 ∧ (2 : Int) ≤ 255 by decide, ⟨hn0, hn1⟩, zop_ok, h32, by rcases hkn with h | h | h | h <;> (simp only [h]; decide)⟩ (show zOp.data.length ≤ 1000000 by decide))
        rw [← hY] at hline
        obtain ⟨y, hy⟩ : ∃ y, y = Y := ⟨_, rfl⟩
        rw [← hy] at hline
        have hBz : B = decide (rlineE y = s) := by rw [hB, hvs, hy]; rfl
        obtain ⟨z, hz⟩ : ∃ z, decide (rlineE y = s) = z := ⟨_, rfl⟩
        rw [hz] at hBz
        rw [hY, hBz]
        cases z with
        | false =>
         have e9 : (!decide (rlineE y = s)) = true := by rw [hz]; rfl
         refine qR ?_;iterate 2 refine rC ?_
         refine nS ?_;refine wG ?_;refine wc_exit ?_;refine seq_x ?_;refine loop_x ?_;refine blk_x ?_;refine seq_n ?_;refine sR ?_;iterate 2 refine rC ?_
         refine nS ?_;refine wG ?_;refine kS ?_;refine qR ?_;refine rQ iM ?_;refine rQ (call_r hline rfl rfl (arg_e arg_nil) (.inl rfl) (fun _ => rfl)) ?_;refine rC ?_;refine rQ (neq_s (a := rlineE y) (b := s) tab_ok rfl rfl rfl) ?_
         refine nS ?_;refine wT ?_;refine sR ?_;refine rQ iM ?_;refine rW ?_;refine rC ?_;refine nS ?_;refine wc_ret ?_;refine seq_r ?_
         exact ⟨trivial, _, rfl, [], .of rfl rfl rfl rfl rfl ⟨⟨_, rfl, rd_le 2 n k0 t false⟩, rfl, trivial⟩ trivial⟩
        | true =>
         have e9 : (!decide (rlineE y = s)) = false := by rw [hz]; rfl
         refine qR ?_;iterate 2 refine rC ?_
         refine nS ?_;refine wG ?_;refine wc_exit ?_;refine seq_x ?_;refine loop_x ?_;refine blk_x ?_;refine seq_n ?_;refine sR ?_;iterate 2 refine rC ?_
         refine nS ?_;refine wG ?_;refine kS ?_;refine qR ?_;refine rQ iM ?_;refine rQ (call_r hline rfl rfl (arg_e arg_nil) (.inl rfl) (fun _ => rfl)) ?_;refine rC ?_;refine rQ (neq_s (a := rlineE y) (b := s) tab_ok rfl rfl rfl) ?_
         refine nS ?_;refine wF ?_;refine kS ?_;refine sR ?_;refine rQ iM ?_;refine rW ?_;refine rC ?_;refine nS ?_;refine wc_ret ?_
         exact ⟨trivial, _, rfl, [], .of rfl rfl rfl rfl rfl ⟨⟨_, rfl, rd_le 2 n k0 t true⟩, rfl, trivial⟩ trivial⟩
     ·have ek : (!decide (k0 = 0)) = true := by rw [dF hk0]; rfl
      have hvn : valR k0 r = none := by rw [hd, valR, hub]; simp only; rw [if_neg (fun q => hk0 q.2)]
      have hB0 : B = false := by rw [hB, hvn]; rfl
      have hYz : Y = ⟨2, n, zOp, zBk, k0⟩ := by rw [hY, hvn]; rfl
      rw [hYz, hB0]
      refine qR ?_;iterate 2 refine rC ?_
      refine nS ?_;refine wG ?_;refine wc_exit ?_;refine seq_x ?_;refine loop_x ?_;refine blk_x ?_;refine seq_n ?_;refine qR ?_;refine rC ?_;refine rQ iE ?_;refine rC ?_
      refine nS ?_;refine wT ?_;refine sR ?_;refine rC ?_;refine rQ (index_arr (xs := a :: b :: c :: r) tab_ok rfl rfl rfl rfl rfl (by omega) g3) ?_;refine rQ iL ?_;refine rQ (call_r hby rfl rfl (arg_e arg_nil) (.inl rfl) (fun _ => rfl)) ?_
      iterate 5 refine rC ?_
      refine nQ ?_;refine sR ?_;iterate 3 refine rC ?_
      refine rP ?_;refine rC ?_;refine rP ?_;refine rQ iE ?_;refine rP ?_;refine rC ?_;refine rQ iG ?_;refine rC ?_;refine rO ?_;refine rC ?_;refine rO ?_;refine rQ iB ?_
      refine rO ?_;refine rC ?_;refine rQ iF ?_;refine nS ?_;refine wT ?_;refine sR ?_;refine rQ iM ?_;refine rW ?_;refine rC ?_;refine nS ?_;refine wc_ret ?_;iterate 3 refine seq_r ?_
      exact ⟨trivial, _, rfl, [], .of rfl rfl rfl rfl rfl ⟨⟨_, rfl, rd_le 2 n k0 zBk false⟩, rfl, trivial⟩ trivial⟩
    ·have e32 : (!decide (((byI t).length : Int) = 32)) = true := by rw [dF (by rw [byI_len]; omega)]; rfl
     have hvn : valR k0 r = none := by rw [hd, valR, hub]; simp only; rw [if_neg (fun q => h32 q.1)]
     have hB0 : B = false := by rw [hB, hvn]; rfl
     have hYz : Y = ⟨2, n, zOp, zBk, k0⟩ := by rw [hY, hvn]; rfl
     rw [hYz, hB0]
     refine qR ?_;iterate 2 refine rC ?_
     refine nS ?_;refine wG ?_;refine wc_exit ?_;refine seq_x ?_;refine loop_x ?_;refine blk_x ?_;refine seq_n ?_;refine qR ?_;refine rC ?_;refine rQ iE ?_;refine rC ?_
     refine nS ?_;refine wT ?_;refine sR ?_;refine rC ?_;refine rQ (index_arr (xs := a :: b :: c :: r) tab_ok rfl rfl rfl rfl rfl (by omega) g3) ?_;refine rQ iL ?_;refine rQ (call_r hby rfl rfl (arg_e arg_nil) (.inl rfl) (fun _ => rfl)) ?_
     iterate 5 refine rC ?_
     refine nQ ?_;refine sR ?_;iterate 3 refine rC ?_
     refine rP ?_;refine rC ?_;refine rP ?_;refine rQ iE ?_;refine rP ?_;refine rC ?_;refine rQ iG ?_;refine rC ?_;iterate 3 refine rS ?_
     refine rQ iT ?_;refine nS ?_;refine wV ?_;refine sR ?_;refine rQ iM ?_;refine rW ?_;refine rC ?_;refine nS ?_;refine wc_ret ?_;iterate 3 refine seq_r ?_
     exact ⟨trivial, _, rfl, [], .of rfl rfl rfl rfl rfl ⟨⟨_, rfl, rd_le 2 n k0 zBk false⟩, rfl, trivial⟩ trivial⟩
  ·have e4 : decide (((a :: b :: c :: r).length : Int) = 4) = false := dF (by omega)
   have hvs : valR k0 r = some zBk := by
    unfold valR
    split
    ·exact absurd rfl hr1
    ·rfl
   rw [hvs] at hY
   replace hY : Y = ⟨2, n, zOp, zBk, k0⟩ := hY
   cases hib : intR b with
   | none =>
    rw [hib] at hn hiv hB
    have hiv0 : iv = 0 := hiv
    subst hiv0
    have hB0 : B = false := by rw [hB]; cases valR k0 r <;> rfl
    rw [hY, hB0]
    refine qR ?_;iterate 2 refine rC ?_
    refine nS ?_;refine wG ?_;refine wc_exit ?_;refine seq_x ?_;refine loop_x ?_;refine blk_x ?_;refine seq_n ?_;refine qR ?_;refine rC ?_;refine rQ iE ?_;refine rC ?_
    refine nS ?_;refine wF ?_;refine kS ?_;refine sR ?_;iterate 2 refine rC ?_
    refine nS ?_;refine wV ?_;refine sR ?_;refine rQ iM ?_;refine rW ?_;refine rC ?_;refine nS ?_;refine wc_ret ?_;refine seq_r ?_
    exact ⟨trivial, _, rfl, [], .of rfl rfl rfl rfl rfl ⟨⟨_, rfl, rd_le 2 n k0 zBk false⟩, rfl, trivial⟩ trivial⟩
   | some n' =>
    obtain ⟨_, hn0, hn1⟩ := int_some hib
    rw [hib] at hn hiv hB
    have hn' : n = n' := hn
    have hiv1 : iv = 1 := hiv
    subst hn' hiv1
    have hline := FnIs.args_le (zev_args 2 n k0 zBk) (rline24_is ⟨2, n, zOp, zBk, k0⟩ ⟨show (0 : Int) ≤ 2 ∧ (2 : Int) ≤ 255 by decide, ⟨hn0, hn1⟩, zop_ok, rfl, by rcases hkn with h | h | h | h <;> (simp only [h]; decide)⟩ (show zOp.data.length ≤ 1000000 by decide))
    rw [← hY] at hline
    obtain ⟨y, hy⟩ : ∃ y, y = Y := ⟨_, rfl⟩
    rw [← hy] at hline
    have hBz : B = decide (rlineE y = s) := by rw [hB, hvs, hy]; rfl
    obtain ⟨z, hz⟩ : ∃ z, decide (rlineE y = s) = z := ⟨_, rfl⟩
    rw [hz] at hBz
    rw [hY, hBz]
    cases z with
    | false =>
     have e9 : (!decide (rlineE y = s)) = true := by rw [hz]; rfl
     refine qR ?_;iterate 2 refine rC ?_
     refine nS ?_;refine wG ?_;refine wc_exit ?_;refine seq_x ?_;refine loop_x ?_;refine blk_x ?_;refine seq_n ?_;refine qR ?_;refine rC ?_;refine rQ iE ?_;refine rC ?_
     refine nS ?_;refine wF ?_;refine kS ?_;refine sR ?_;iterate 2 refine rC ?_
     refine nS ?_;refine wG ?_;refine kS ?_;refine qR ?_;refine rQ iM ?_;refine rQ (call_r hline rfl rfl (arg_e arg_nil) (.inl rfl) (fun _ => rfl)) ?_;refine rC ?_;refine rQ (neq_s (a := rlineE y) (b := s) tab_ok rfl rfl rfl) ?_
     refine nS ?_;refine wT ?_;refine sR ?_;refine rQ iM ?_;refine rW ?_;refine rC ?_;refine nS ?_;refine wc_ret ?_;refine seq_r ?_
     exact ⟨trivial, _, rfl, [], .of rfl rfl rfl rfl rfl ⟨⟨_, rfl, rd_le 2 n k0 zBk false⟩, rfl, trivial⟩ trivial⟩
    | true =>
     have e9 : (!decide (rlineE y = s)) = false := by rw [hz]; rfl
     refine qR ?_;iterate 2 refine rC ?_
     refine nS ?_;refine wG ?_;refine wc_exit ?_;refine seq_x ?_;refine loop_x ?_;refine blk_x ?_;refine seq_n ?_;refine qR ?_;refine rC ?_;refine rQ iE ?_;refine rC ?_
     refine nS ?_;refine wF ?_;refine kS ?_;refine sR ?_;iterate 2 refine rC ?_
     refine nS ?_;refine wG ?_;refine kS ?_;refine qR ?_;refine rQ iM ?_;refine rQ (call_r hline rfl rfl (arg_e arg_nil) (.inl rfl) (fun _ => rfl)) ?_;refine rC ?_;refine rQ (neq_s (a := rlineE y) (b := s) tab_ok rfl rfl rfl) ?_
     refine nS ?_;refine wF ?_;refine kS ?_;refine sR ?_;refine rQ iM ?_;refine rW ?_;refine rC ?_;refine nS ?_;refine wc_ret ?_
     exact ⟨trivial, _, rfl, [], .of rfl rfl rfl rfl rfl ⟨⟨_, rfl, rd_le 2 n k0 zBk true⟩, rfl, trivial⟩ trivial⟩
end Go.Proofs.YtmojbghcngdkpaaGreatDoor
namespace Go.Proofs.YtmojbghcngdkpaaGreatDoor
open Go.Eng Go.Plain
abbrev RdIs (s : List UInt8) : Prop := ∃ y, FnIs Tryz.prog 70 [.d (strD s)] [] (rdR y (evR s).isSome) [] ∧ ∀ x, evR s = some x → y = x
theorem finr_dec (s : List UInt8) (x : HEv) : (finR24 s x).isSome = decide (rlineE x = s) := by
 unfold finR24
 by_cases h : rlineE x = s
 ·rw [if_pos h, dT h]; rfl
 ·rw [if_neg h, dF h]; rfl
theorem finr_eq {s : List UInt8} {x y : HEv} (h : finR24 s x = some y) : x = y := by
 unfold finR24 at h
 split at h
 ·exact Option.some.inj h
 ·cases h
theorem rdIs_of {s : List UInt8} {x : HEv} (he : evR s = finR24 s x) (hf : FnIs Tryz.prog 70 [.d (strD s)] [] (rdR x (decide (rlineE x = s))) []) : RdIs s :=
 ⟨x, by rw [he, finr_dec]; exact hf, fun y hy => by rw [he] at hy; exact finr_eq hy⟩
theorem rdIs_none {s : List UInt8} {y : HEv} (he : evR s = none) (hf : FnIs Tryz.prog 70 [.d (strD s)] [] (rdR y false) []) : RdIs s :=
 ⟨y, by rw [he]; exact hf, fun x hx => by rw [he] at hx; cases hx⟩
theorem rdev_is (s : List UInt8) (hs : s.length ≤ 1048575) : RdIs s := by
 cases h1 : cutL s 32 with
 | none =>
  have hW : splitL s 32 = [s] := by rw [split_cut, h1]
  exact rdIs_of (by rw [evR, h1]) (rd_crash s [s] hW hs (fun h => by simp at h))
 | some ar =>
  obtain ⟨a, r1⟩ := ar
  have l1 := (cutL_some h1).1
  have hl1 : s.length = a.length + 1 + r1.length := by rw [l1]; simp; omega
  cases h2 : cutL r1 32 with
  | none =>
   have hW : splitL s 32 = [a, r1] := by rw [split_cut, h1]; simp only; rw [split_cut, h2]
   exact rdIs_of (by rw [evR, h1]; simp only; rw [h2]) (rd_crash s [a, r1] hW hs (fun h => by simp at h))
  | some br =>
   obtain ⟨b, rest⟩ := br
   have l2 := (cutL_some h2).1
   have hl2 : r1.length = b.length + 1 + rest.length := by rw [l2]; simp; omega
   have hW : splitL s 32 = a :: b :: splitL rest 32 := by rw [split_cut, h1]; simp only; rw [split_cut, h2]
   have hev : evR s = if a = sInvoke then
     match readP rest, intR b with
     | some o, some n => if o.data.length ≤ 64 then finR24 s ⟨1, n, o, zBk, 0⟩ else none
     | _, _ => none
    else if a = sReturn then
     match splitL rest 32 with
     | [] => none
     | c :: w => match valR (keyR c) w, intR b with
      | some v, some n => finR24 s ⟨2, n, zOp, v, keyR c⟩
      | _, _ => none
    else finR24 s crashE := by rw [evR, h1]; simp only; (rw [h2]) <;> rfl
   have hne := splitL_ne rest 32
   have hj := join_split rest.length rest (Nat.le_refl _)
   by_cases ha : a = sInvoke
   ·rw [if_pos ha] at hev
    have W := rd_inv_w s a b (splitL rest 32) hW (List.length_pos_iff.2 hne) hs ha (by rw [hj]; omega) (by omega) ((intR b).getD 0) (o1 (intR b)) (o1 (readP rest)) ((readP rest).getD opNil)
    rw [hj] at W
    cases hrp : readP rest with
    | none =>
     rw [hrp] at hev W
     exact rdIs_none hev (W _ false rfl rfl rfl rfl (.inl ⟨rfl, rfl, .inl rfl⟩))
    | some o =>
     cases hib : intR b with
     | none =>
      rw [hrp, hib] at hev W
      exact rdIs_none hev (W _ false rfl rfl rfl rfl (.inl ⟨rfl, rfl, .inr (.inl rfl)⟩))
     | some n =>
      rw [hrp, hib] at hev W
      simp only at hev
      by_cases hd : o.data.length ≤ 64
      ·rw [if_pos hd] at hev
       exact rdIs_of hev (W _ _ rfl rfl rfl rfl (.inr ⟨rfl, rfl, hd, rfl, rfl⟩))
      ·rw [if_neg hd] at hev
       exact rdIs_none hev (W _ false rfl rfl rfl rfl (.inl ⟨rfl, rfl, .inr (.inr hd)⟩))
   ·rw [if_neg ha] at hev
    by_cases hr : a = sReturn
    ·rw [if_pos hr] at hev
     obtain ⟨c, w, hcw⟩ := List.exists_cons_of_ne_nil hne
     rw [hcw] at hev hW
     simp only at hev
     have hrl : ∀ d ∈ w, d.length ≤ 1048575 := fun d hd => by
      have := split_mem_le rest 32 d (by rw [hcw]; simp [hd])
      omega
     have W := rd_ret s a b c w hW hs hr (by omega) hrl (keyR c) ((intR b).getD 0) (o1 (intR b)) _ _ rfl rfl rfl rfl rfl
     cases hv : valR (keyR c) w with
     | none =>
      rw [hv] at hev W
      exact rdIs_none hev W
     | some v =>
      cases hib : intR b with
      | none =>
       rw [hv, hib] at hev W
       exact rdIs_none hev W
      | some n =>
       rw [hv, hib] at hev W
       exact rdIs_of hev W
    ·rw [if_neg hr] at hev
     exact rdIs_of hev (rd_crash s _ hW hs (fun ⟨_, a', h1, h2⟩ => by
      simp at h1
      subst h1
      rcases h2 with h | h
      ·exact ha h
      ·exact hr h))
end Go.Proofs.YtmojbghcngdkpaaGreatDoor
namespace Go.Proofs.YtmojbghcngdkpaaGreatDoor
open Go.Eng Go.Plain
set_option linter.unusedVariables false
theorem cutA_len (l : List UInt8) (c : UInt8) : (cutA l c).1.length ≤ l.length ∧ (cutA l c).2.1.length ≤ l.length ∧ ((cutA l c).2.1 = [] ∨ (cutA l c).1.length + 1 + (cutA l c).2.1.length = l.length) := by
 unfold cutA
 cases h : cutL l c with
 | none => exact ⟨Nat.le_refl _, Nat.zero_le _, .inl rfl⟩
 | some pq =>
  obtain ⟨p, q⟩ := pq
  have := (cutL_some h).1
  have hl : l.length = p.length + 1 + q.length := by rw [this]; simp; omega
  exact ⟨by simp only; omega, by simp only; omega, .inr (by simp only; omega)⟩
theorem fin_none {s : List UInt8} {x : HEv} : finE s false x = none := by rw [finE, if_neg (fun h => by cases h.1)]
theorem fin_true {s : List UInt8} {x : HEv} : finE s true x = if lineE x = s then some x else none := by
 unfold finE
 by_cases h : lineE x = s
 ·rw [if_pos ⟨rfl, h⟩, if_pos h]
 ·rw [if_neg (fun q => h q.2), if_neg h]
abbrev EvIs (s : List UInt8) : Prop := ∃ y, FnIs Tryz.prog 73 [.d (strD s)] [] (evR2 y (evP s).isSome) [] ∧ ∀ x, evP s = some x → y = x
theorem evIs_fin {s : List UInt8} {ok : Bool} {x : HEv} (he : evP s = finE s ok x) (hf : FnIs Tryz.prog 73 [.d (strD s)] [] (evR2 x (ok && decide (lineE x = s))) []) : EvIs s := by
 refine ⟨x, ?_, fun y hy => ?_⟩
 ·have : (evP s).isSome = (ok && decide (lineE x = s)) := by
   rw [he]
   cases ok with
   | false => rw [fin_none]; rfl
   | true =>
    rw [fin_true]
    by_cases h : lineE x = s
    ·rw [if_pos h, dT h]; rfl
    ·rw [if_neg h, dF h]; rfl
  rw [this]; exact hf
 ·rw [he] at hy
  exact (fin_some hy).2.2
theorem evIs_none {s : List UInt8} {x : HEv} (he : evP s = none) (hf : FnIs Tryz.prog 73 [.d (strD s)] [] (evR2 x false) []) : EvIs s :=
 ⟨x, by rw [he]; exact hf, fun y hy => by rw [he] at hy; cases hy⟩
theorem event_is (s : List UInt8) (hs : s.length ≤ 1048576) : EvIs s := by
 by_cases hc : s = sCrash
 ·have he : evP s = some crashE := by rw [evP, if_pos hc]
  exact ⟨crashE, by rw [he]; exact event_crash s hc, fun x hx => by rw [he] at hx; cases hx; rfl⟩
 obtain ⟨kind, r1, b1, hk1⟩ : ∃ a b c, cutA s 32 = (a, b, c) := ⟨_, _, _, rfl⟩
 obtain ⟨cl, rest, b2, hk2⟩ : ∃ a b c, cutA r1 32 = (a, b, c) := ⟨_, _, _, rfl⟩
 have l1 := cutA_len s 32
 have l2 := cutA_len r1 32
 rw [hk1] at l1
 rw [hk2] at l2
 simp only at l1 l2
 have c1 := cut_is (l := s) (c := 32) (by omega)
 have c2 := cut_is (l := r1) (c := 32) (by omega)
 have a := atoi_is (l := cl) (by omega)
 rw [hk1] at c1
 rw [hk2] at c2
 have H : HeadIs s kind r1 cl rest b1 b2 (atoiOk cl) (atoiV cl) := ⟨c1, c2, a⟩
 have hev : evP s = if kind = sInvoke then
   match parseP (sClient ++ 10 :: (rest ++ [10])) [] 1 with
   | ([[o]], _, e) => if e = 0 then finE s (atoiOk cl) ⟨1, atoiV cl, o, zBk, 0⟩ else none
   | _ => none
  else if kind = sReturn then
   match keyOf (cutA rest 32).1 with
   | none => none
   | some k => if (cutA rest 32).2.2 = true then
     match blockP (cutA rest 32).2.1 with
     | none => none
     | some v => finE s (atoiOk cl) ⟨2, atoiV cl, zOp, v, k⟩
    else finE s (atoiOk cl) ⟨2, atoiV cl, zOp, zBk, k⟩
  else none := by
  rw [evP, if_neg hc, hk1]
  simp only
  (rw [hk2]) <;> rfl
 by_cases hi : kind = sInvoke
 ·rw [if_pos hi] at hev
  have hkl : kind.length = 6 := by rw [hi]; rfl
  have hrl : rest.length ≤ 1048568 := by
   rcases l1.2.2 with e | e
   ·have : r1.length = 0 := by rw [e]; rfl
    omega
   ·rcases l2.2.2 with e2 | e2
    ·have : rest.length = 0 := by rw [e2]; rfl
     omega
    ·omega
  have hp := parse_is (sClient ++ [10] ++ rest ++ [10]) (by simp [sClient]; omega)
  have htx : sClient ++ [10] ++ rest ++ [10] = sClient ++ 10 :: (rest ++ [10]) := by simp
  obtain ⟨l, k, e, hP⟩ : ∃ l k e, parseP (sClient ++ 10 :: (rest ++ [10])) [] 1 = (l, k, e) := ⟨_, _, _, rfl⟩
  rw [show parseP (sClient ++ [10] ++ rest ++ [10]) [] 1 = (l, k, e) by rw [htx]; exact hP] at hp
  simp only at hp
  rw [hP] at hev
  by_cases hyes : atoiOk cl = true ∧ e = 0 ∧ l.length = 1 ∧ ∀ p, l[0]? = some p → p.length = 1
  ·obtain ⟨hok, rfl, hl1, hl2⟩ := hyes
   obtain ⟨p, rfl⟩ : ∃ p, l = [p] := List.length_eq_one_iff.1 hl1
   obtain ⟨o, rfl⟩ : ∃ o, p = [o] := List.length_eq_one_iff.1 (hl2 p rfl)
   simp only [if_pos] at hev
   obtain ⟨q1, q2, _⟩ := parse_line2 hP
   obtain ⟨r1', r2'⟩ := atoi_range hok
   rw [hok] at H hev
   refine evIs_fin hev ?_
   rw [Bool.true_and]
   exact event_inv s kind r1 cl rest b1 b2 (atoiV cl) H hc hi hrl o k hp ⟨show (0 : Int) ≤ 1 ∧ (1 : Int) ≤ 255 by decide, ⟨r1', r2'⟩, q1, rfl, by show (-9223372036854775808 : Int) ≤ 0 ∧ (0 : Int) ≤ 9223372036854775807; decide⟩ q2 _ rfl
  ·refine evIs_none ?_ (event_inv_no s kind r1 cl rest b1 b2 (atoiOk cl) (atoiV cl) H hc hi hrl l k e hp hyes)
   rw [hev]
   split
   ·rename_i o k' e' heq
    cases heq
    split
    ·rename_i he0
     cases hok : atoiOk cl with
     | false => exact fin_none
     | true => exact absurd ⟨hok, he0, rfl, fun p hp => by cases hp; rfl⟩ hyes
    ·rfl
   ·rfl
 rw [if_neg hi] at hev
 by_cases hr : kind = sReturn
 ·rw [if_pos hr] at hev
  obtain ⟨word, value, more, hk3⟩ : ∃ a b c, cutA rest 32 = (a, b, c) := ⟨_, _, _, rfl⟩
  have l3 := cutA_len rest 32
  rw [hk3] at l3 hev
  simp only at l3 hev
  have c3 := cut_is (l := rest) (c := 32) (by omega)
  rw [hk3] at c3
  have hbk : ∃ vb bb, FnIs Tryz.prog 119 [.d (strD value)] [] (blkR vb bb) [] ∧ (bb = true → vb.length = 32) ∧ (blockP value = if bb = true then some vb else none) := by
   cases hb : blockP value with
   | none =>
    obtain ⟨v, hv⟩ := block_none value hb (by omega)
    exact ⟨v, false, hv, (fun h => by cases h), by rw [if_neg (by decide)]⟩
   | some v => exact ⟨v, true, block_some value v hb, fun _ => block_len hb, by rw [if_pos rfl]⟩
  obtain ⟨vb, bb, hb1, hb2, hb3⟩ := hbk
  have hF : FnIs Tryz.prog 73 [.d (strD s)] [] (evR2 (evRet s (atoiV cl) (atoiOk cl) more bb vb (keyOf word)).1 (evRet s (atoiV cl) (atoiOk cl) more bb vb (keyOf word)).2) [] := by
   cases hok : atoiOk cl with
   | false =>
    rw [hok] at H
    exact event_ret_false s kind r1 cl rest word value b1 b2 more bb (atoiV cl) vb H hc hr c3 hb1 hb2
   | true =>
    obtain ⟨q1, q2⟩ := atoi_range hok
    rw [hok] at H
    exact event_ret_true s kind r1 cl rest word value b1 b2 more bb (atoiV cl) vb H hc hr c3 hb1 hb2 q1 q2
  cases hkw : keyOf word with
  | none =>
   rw [hkw] at hF hev
   exact evIs_none hev hF
  | some k =>
   rw [hkw] at hF hev
   simp only at hev
   unfold evRet at hF
   simp only at hF
   cases more with
   | false =>
    simp only [Bool.false_eq_true, if_false, Bool.true_and] at hF hev
    exact evIs_fin hev hF
   | true =>
    simp only [if_true] at hF hev
    rw [hb3] at hev
    cases bb with
    | false =>
     simp only [Bool.false_eq_true, if_false, Bool.false_and] at hF hev
     exact evIs_none hev hF
    | true =>
     simp only [if_true, Bool.true_and] at hF hev
     exact evIs_fin hev hF
 ·rw [if_neg hr] at hev
  exact evIs_none hev (event_other s kind r1 cl rest b1 b2 (atoiOk cl) (atoiV cl) H hc hi hr)
end Go.Proofs.YtmojbghcngdkpaaGreatDoor
namespace Go.Proofs.YtmojbghcngdkpaaGreatDoor
open Go.Eng Go.Plain
set_option maxHeartbeats 8000000
set_option maxRecDepth 20000
set_option linter.unusedVariables false
attribute [local irreducible] WC RegS RegD SeqQ BlkQ ScoQ RegK CutK Sat SatN FnIs LoopQ StepIs OpIs
abbrev hpR (l : List HEv) (n : Nat) (e : Int) : AV := .tup (.acons (.d (encHX l)) (.acons (.int .i64 n) (.acons (.d (i6 e)) .anil)))
structure HPInv (s0 : List UInt8) (rd : RdS) (h : List HEv) (s : List UInt8) : Prop where
 rok : rd.Ok h.length
 len : h.length ≤ 8192
 sl : s.length ≤ 1048576
 eq : hparse s rd h (h.length + 1) = hparse s0 rd0 [] 1
theorem hparse_main (s0 : List UInt8) (hl : s0.length ≤ 1048576) : FnIs Tryz.prog 30 [.d (strD s0)] [] (hpR (hparse s0 rd0 [] 1).1 (hparse s0 rd0 [] 1).2.1 (hparse s0 rd0 [] 1).2.2) [] := by
 have h0 : decide ((1048576 : Int) < (s0.length : Int)) = false := dF (by omega)
 refine fnIs_of tab_ok Tryz.func30 rfl rfl rfl ?_;refine sR ?_;iterate 3 refine rC ?_
 refine nQ ?_;refine sR ?_;refine rC ?_;refine rQ (len_s tab_ok rfl rfl) ?_;refine rC ?_;refine nS ?_;refine wF ?_;refine kS ?_;refine sR ?_;refine rQ iS ?_;refine rN ?_
 refine rC ?_;refine nR ?_;iterate 3 refine rC ?_
 refine nQ ?_;refine sR ?_;refine rC ?_;refine nS ?_;refine wc_block ?_
 refine wc_inv (fun q : RdS × List HEv × List UInt8 => ⟨[(0, .d (strD q.2.2)), (2, .own 66 0 q.2.1.length 38 none), (3, .int .i64 ((q.2.1.length + 1 : Nat) : Int)), (6, fnT 64)], [(64, some (rdRow q.1 65)), (65, some (opRow q.1.all)), (66, some (.ds 59 38 false encEv q.2.1))], 72, Tryz.f30.ntmps, 64⟩) (fun q => HPInv s0 q.1 q.2.1 q.2.2) (fun q => q.2.2.length) (rd0, [], s0) [(64, some 120), (65, none), (66, none)] ⟨rd0_ok, Nat.zero_le _, hl, rfl⟩
  (.of rfl rfl rfl rfl rfl ⟨⟨_, rfl, .refl _⟩, rfl, ⟨_, rfl, .refl _⟩, rfl, ⟨_, rfl, .refl _⟩, rfl, ⟨_, rfl, .refl _⟩, rfl, trivial⟩ ⟨⟨rfl, rfl, _, rfl, rd0_le⟩, ⟨rfl, rfl, rfl⟩, ⟨rfl, rfl, rfl⟩, trivial⟩) ?_
 rintro ⟨rd, h, s⟩ hs
 simp only at hs
 refine wc_of ?_
 have hsl := hs.sl
 have hle := hs.len
 have hn : h.length ≤ 1000000 := by omega
 have hal : h.length + 1 ≤ 1048576 := by omega
 have hw1 : IntKind.i64.wrap (((h.length + 1 : Nat) : Int) + 1) = ((h.length + 1 + 1 : Nat) : Int) := wrap_i64 (by omega) (by omega)
 by_cases hz : s = []
 ·have e0 : (!decide (s = [])) = false := by rw [dT hz]; rfl
  have he := hs.eq
  rw [hz, hparse_nil] at he
  rw [← he]
  refine qR ?_;refine rC ?_;refine rQ (neq_s (a := s) (b := []) tab_ok rfl rfl rfl) ?_;refine nS ?_;refine wF ?_;refine wc_exit ?_;refine seq_x ?_;refine loop_x ?_
  refine blk_x ?_;refine seq_n ?_;refine sR ?_;refine rC ?_;refine reg_freeze (env' := [(58, _)]) (h' := []) 66 _ rfl ⟨⟨_, rfl, Frz.own rfl⟩, trivial⟩ trivial ?_;refine rQ (call_r (exe_is h (by omega)) rfl rfl (arg_e arg_nil) (.inl rfl) (fun _ => rfl)) ?_
  iterate 3 refine rC ?_
  refine nS ?_;refine wc_ret ?_
  exact ⟨trivial, [], lf⟩
 have e0 : (!decide (s = [])) = true := by rw [dF hz]; rfl
 have hcut := cut_is (l := s) (c := 10) (by omega)
 have he := hs.eq
 cases hc : cutL s 10 with
 | none =>
  rw [hparse_none _ _ _ hz hc] at he
  rw [← he]
  rw [cutA, hc] at hcut
  simp only at hcut
  obtain ⟨y, hev, _⟩ := event_is s hsl
  refine qR ?_;refine rC ?_;refine rQ (neq_s (a := s) (b := []) tab_ok rfl rfl rfl) ?_;refine nS ?_;refine wT ?_;refine kS ?_;refine wc_seq ?_;refine wc_block ?_;refine sR ?_
  refine rC ?_;refine rQ (call_r hcut rfl rfl (arg_e (arg_e arg_nil)) (.inl rfl) (fun _ => rfl)) ?_;iterate 7 refine rC ?_
  refine nR ?_;refine rC ?_;refine rQ (call_r hev rfl rfl (arg_e arg_nil) (.inl rfl) (fun _ => rfl)) ?_;iterate 3 refine rC ?_
  refine rN ?_;refine rW ?_;refine rC ?_;refine nQ ?_;refine wc_block ?_;refine sR ?_;iterate 3 refine rC ?_
  iterate 2 refine rT ?_
  refine rQ iU ?_;refine rC ?_;refine nS ?_;refine wV ?_;refine sR ?_;iterate 4 refine rC ?_
  refine nS ?_;refine wc_ret ?_;refine blk_r ?_;refine seq_r ?_;refine blk_r ?_;refine seq_r ?_;refine loop_r ?_;refine blk_r ?_;refine seq_r ?_
  exact ⟨trivial, [], .of rfl rfl rfl rfl rfl ⟨⟨_, rfl, AVLe.tup1 (nil_arx _ _) rfl⟩, rfl, trivial⟩ trivial⟩
 | some tr =>
  obtain ⟨t, r⟩ := tr
  rw [cutA, hc] at hcut
  simp only at hcut
  rw [hparse_some _ _ _ hz hc] at he
  have hlc := (cutL_some hc).1
  have hlen : s.length = t.length + 1 + r.length := by rw [hlc]; simp; omega
  obtain ⟨y, hev, hy⟩ := event_is t (by omega)
  cases hep : evP t with
  | none =>
   rw [hep] at hev he
   simp only [Option.isSome] at hev
   simp only at he
   rw [← he]
   refine qR ?_;refine rC ?_;refine rQ (neq_s (a := s) (b := []) tab_ok rfl rfl rfl) ?_;refine nS ?_;refine wT ?_;refine kS ?_;refine wc_seq ?_;refine wc_block ?_;refine sR ?_
   refine rC ?_;refine rQ (call_r hcut rfl rfl (arg_e (arg_e arg_nil)) (.inl rfl) (fun _ => rfl)) ?_;iterate 7 refine rC ?_
   refine nR ?_;refine rC ?_;refine rQ (call_r hev rfl rfl (arg_e arg_nil) (.inl rfl) (fun _ => rfl)) ?_;iterate 3 refine rC ?_
   refine rN ?_;refine rW ?_;refine rC ?_;refine nQ ?_;refine wc_block ?_;refine sR ?_;iterate 3 refine rC ?_
   refine rP ?_;refine rC ?_;refine rP ?_;refine rC ?_;refine rQ iG ?_;refine rC ?_;refine nS ?_;refine wV ?_;refine sR ?_;iterate 4 refine rC ?_
   refine nS ?_;refine wc_ret ?_;refine blk_r ?_;refine seq_r ?_;refine blk_r ?_;refine seq_r ?_;refine loop_r ?_;refine blk_r ?_;refine seq_r ?_
   exact ⟨trivial, [], .of rfl rfl rfl rfl rfl ⟨⟨_, rfl, AVLe.tup1 (nil_arx _ _) rfl⟩, rfl, trivial⟩ trivial⟩
  | some x =>
   have := hy x hep
   subst this
   obtain ⟨x, rfl⟩ : ∃ x, x = y := ⟨y, rfl⟩
   rw [hep] at hev he
   simp only [Option.isSome] at hev
   simp only at he
   have hxw := (evP_some hep).1
   by_cases h8 : 8192 < h.length + 1
   ·have e8 : decide ((8192 : Int) < ((h.length + 1 : Nat) : Int)) = true := dT (by omega)
    rw [if_pos h8] at he
    rw [← he]
    refine qR ?_;refine rC ?_;refine rQ (neq_s (a := s) (b := []) tab_ok rfl rfl rfl) ?_;refine nS ?_;refine wT ?_;refine kS ?_;refine wc_seq ?_;refine wc_block ?_;refine sR ?_
    refine rC ?_;refine rQ (call_r hcut rfl rfl (arg_e (arg_e arg_nil)) (.inl rfl) (fun _ => rfl)) ?_;iterate 7 refine rC ?_
    refine nR ?_;refine rC ?_;refine rQ (call_r hev rfl rfl (arg_e arg_nil) (.inl rfl) (fun _ => rfl)) ?_;iterate 3 refine rC ?_
    refine rN ?_;refine rW ?_;refine rC ?_;refine nQ ?_;refine wc_block ?_;refine sR ?_;iterate 3 refine rC ?_
    refine rP ?_;refine rC ?_;refine rP ?_;refine rC ?_;refine rQ iG ?_;refine rC ?_;refine nS ?_;refine wG ?_;refine sR ?_;iterate 3 refine rC ?_
    refine nS ?_;refine wT ?_;refine sR ?_;iterate 4 refine rC ?_
    refine nS ?_;refine wc_ret ?_;refine blk_r ?_;refine seq_r ?_;refine blk_r ?_;refine seq_r ?_;refine loop_r ?_;refine blk_r ?_;refine seq_r ?_
    exact ⟨trivial, [], .of rfl rfl rfl rfl rfl ⟨⟨_, rfl, AVLe.tup1 (nil_arx _ _) rfl⟩, rfl, trivial⟩ trivial⟩
   ·have e8 : decide ((8192 : Int) < ((h.length + 1 : Nat) : Int)) = false := dF (by omega)
    rw [if_neg h8] at he
    have hdx : x.op.data.length ≤ 1048576 := by
     rcases hxw.2.2 with h | h | h
     ·rw [h.2.2.1]; decide
     ·have := h.2.2.2.2; omega
     ·rw [h.2.1]; decide
    cases hb : (takeS rd x).2 with
    | false =>
     have eb : (!(takeS rd x).2) = true := by rw [hb]; rfl
     rw [hb] at he
     simp only [Bool.false_eq_true, if_false] at he
     rw [← he]
     refine qR ?_;refine rC ?_;refine rQ (neq_s (a := s) (b := []) tab_ok rfl rfl rfl) ?_;refine nS ?_;refine wT ?_;refine kS ?_;refine wc_seq ?_;refine wc_block ?_;refine sR ?_
     refine rC ?_;refine rQ (call_r hcut rfl rfl (arg_e (arg_e arg_nil)) (.inl rfl) (fun _ => rfl)) ?_;iterate 7 refine rC ?_
     refine nR ?_;refine rC ?_;refine rQ (call_r hev rfl rfl (arg_e arg_nil) (.inl rfl) (fun _ => rfl)) ?_;iterate 3 refine rC ?_
     refine rN ?_;refine rW ?_;refine rC ?_;refine nQ ?_;refine wc_block ?_;refine sR ?_;iterate 3 refine rC ?_
     refine rP ?_;refine rC ?_;refine rP ?_;refine rC ?_;refine rQ iG ?_;refine rC ?_;refine nS ?_;refine wG ?_;refine sR ?_;iterate 3 refine rC ?_
     refine nS ?_;refine wF ?_;refine sR ?_;refine rC ?_;refine rQ iM ?_;refine reg_do rfl (call_b [(0, some 64), (1, some 65)] (take_is rd x h.length hs.rok hn) rfl rfl rfl rfl (arg_ptr rfl rfl (arg_e arg_nil)) ⟨⟨rfl, rfl, _, _, rfl, rfl, .refl _⟩, ⟨rfl, rfl, _, _, rfl, rfl, .refl _⟩, trivial⟩ rfl rfl (.inl rfl) rfl rfl) rfl rfl ?_
     iterate 2 refine rC ?_
     refine nS ?_;refine wT ?_;refine sR ?_;iterate 4 refine rC ?_
     refine nS ?_;refine wc_ret ?_;refine blk_r ?_;refine seq_r ?_;refine blk_r ?_;refine seq_r ?_;refine loop_r ?_;refine blk_r ?_;refine seq_r ?_
     exact ⟨trivial, [], .of rfl rfl rfl rfl rfl ⟨⟨_, rfl, AVLe.tup1 (nil_arx _ _) rfl⟩, rfl, trivial⟩ trivial⟩
    | true =>
     have eb : (!(takeS rd x).2) = false := by rw [hb]; rfl
     rw [hb, if_pos rfl] at he
     have hl1 : h.length + 1 = (h ++ [x]).length := by simp
     have hl2 : ((h.length + 1 + 1 : Nat) : Int) = (((h ++ [x]).length + 1 : Nat) : Int) := by simp
     refine qR ?_;refine rC ?_;refine rQ (neq_s (a := s) (b := []) tab_ok rfl rfl rfl) ?_;refine nS ?_;refine wT ?_;refine kS ?_;refine wc_seq ?_;refine wc_block ?_;refine sR ?_
     refine rC ?_;refine rQ (call_r hcut rfl rfl (arg_e (arg_e arg_nil)) (.inl rfl) (fun _ => rfl)) ?_;iterate 7 refine rC ?_
     refine nR ?_;refine rC ?_;refine rQ (call_r hev rfl rfl (arg_e arg_nil) (.inl rfl) (fun _ => rfl)) ?_;iterate 3 refine rC ?_
     refine rN ?_;refine rW ?_;refine rC ?_;refine nQ ?_;refine wc_block ?_;refine sR ?_;iterate 3 refine rC ?_
     refine rP ?_;refine rC ?_;refine rP ?_;refine rC ?_;refine rQ iG ?_;refine rC ?_;refine nS ?_;refine wG ?_;refine sR ?_;iterate 3 refine rC ?_
     refine nS ?_;refine wF ?_;refine sR ?_;refine rC ?_;refine rQ iM ?_;refine reg_do rfl (call_b [(0, some 64), (1, some 65)] (take_is rd x h.length hs.rok hn) rfl rfl rfl rfl (arg_ptr rfl rfl (arg_e arg_nil)) ⟨⟨rfl, rfl, _, _, rfl, rfl, .refl _⟩, ⟨rfl, rfl, _, _, rfl, rfl, .refl _⟩, trivial⟩ rfl rfl (.inl rfl) rfl rfl) rfl rfl ?_
     iterate 2 refine rC ?_
     refine nS ?_;refine wF ?_;refine wc_skip ?_;refine blk_n ?_;refine seq_n ?_;refine sR ?_;refine rC ?_;refine rQ iM ?_;refine rQ (call_r (own_is x hdx) rfl rfl (arg_e arg_nil) (.inl rfl) (fun _ => rfl)) ?_
     refine reg_new (build_slice (s := 38) tab_ok rfl rfl rfl rfl rfl rfl rfl rfl) rfl ?_;refine reg_new2 (append_one (enc := encEv) (s := 38) (xs := h) tab_ok x rfl rfl rfl rfl rfl rfl rfl rfl rfl hal rfl) rfl ?_
     refine rC ?_;refine nS ?_;refine wc_region ?_;iterate 2 refine rC ?_
     refine reg_nil ?_;refine blk_n ?_;refine seq_n ?_;refine wc_region ?_;refine rC ?_;refine rQ (add_int (m := ((h.length + 1 + 1 : Nat) : Int)) tab_ok rfl rfl hw1) ?_
     refine rC ?_;refine reg_nil ?_
     exact loop_n ((takeS rd x).1, h ++ [x], r) [(64, some 64), (65, some _), (66, some _)] ⟨by rw [← hl1]; exact hs.rok.next x, by rw [← hl1]; omega, show r.length ≤ 1048576 by omega, by rw [← hl1]; exact he⟩ (by show r.length < s.length; omega) (.of rfl rfl rfl rfl rfl ⟨⟨_, rfl, .refl _⟩, rfl, ⟨_, rfl, AVLe.of_eq (congrArg (fun n => AV.own _ 0 n 38 none) hl1)⟩, rfl, ⟨_, rfl, AVLe.of_eq (congrArg (fun n => AV.int .i64 n) hl2)⟩, rfl, ⟨_, rfl, .refl _⟩, rfl, trivial⟩ ⟨⟨rfl, rfl, _, rfl, .refl _⟩, ⟨rfl, rfl, _, rfl, .refl _⟩, ⟨rfl, rfl, _, rfl, .refl _⟩, trivial⟩)
abbrev rhpR (l : List HEv) (n : Nat) (e : Int) : AV := .tup (.acons (.d (encH l)) (.acons (.int .i64 n) (.acons (.int .i64 e) .anil)))
structure RPInv (W : List (List UInt8)) (h : List HEv) (i : Nat) : Prop where
 len : h.length ≤ i
 i8 : i ≤ 8192
 iw : i < W.length
 eq : hparseR (W.drop i) i h = hparseR W 0 []
theorem rparse24_main (s : List UInt8) (hs : s.length ≤ 1048575) (W : List (List UInt8)) (hW : splitL s 10 = W) : FnIs Tryz.prog 29 [.d (strD s)] [] (rhpR (hparseR W 0 []).1 (hparseR W 0 []).2.1 (hparseR W 0 []).2.2) [] := by
 have h0 : decide ((1048576 : Int) < (s.length : Int)) = false := dF (by omega)
 have hcut := rcut_is s 10 hs
 rw [hW] at hcut
 have hwl : W.length ≤ 1048576 := by
  have := splitL_len s 10
  rw [hW] at this
  omega
 have hwp : 0 < W.length := by rw [← hW]; exact List.length_pos_iff.2 (splitL_ne s 10)
 have hmem : ∀ q ∈ W, q.length ≤ s.length := fun q hq => split_mem_le s 10 q (by rw [hW]; exact hq)
 refine fnIs_of tab_ok Tryz.func29 rfl rfl rfl ?_;refine sR ?_;iterate 3 refine rC ?_
 refine nQ ?_;refine sR ?_;refine rC ?_;refine rQ (len_s tab_ok rfl rfl) ?_;refine rC ?_;refine nS ?_;refine wF ?_;refine kS ?_;refine sR ?_;refine rC ?_;refine rQ (call_r hcut rfl rfl (arg_e (arg_e arg_nil)) (.inl rfl) (fun _ => rfl)) ?_
 refine rC ?_;refine nR ?_;refine rC ?_;refine nQ ?_;refine sR ?_;refine rC ?_;refine nS ?_;refine wc_block ?_
 refine wc_inv (fun q : List HEv × Nat => ⟨[(0, .d (strD s)), (5, .d (.arr 1 strD W)), (6, .own 65 0 q.1.length 38 none), (7, .int .i64 (q.2 : Nat))], [(65, some (.ds 59 38 false encEv q.1))], 72, Tryz.f29.ntmps, 64⟩) (fun q => RPInv W q.1 q.2) (fun q => W.length - q.2) ([], 0) [(65, none)] ⟨Nat.le_refl _, Nat.zero_le _, hwp, rfl⟩
  (.of rfl rfl rfl rfl rfl ⟨⟨_, rfl, .refl _⟩, rfl, ⟨_, rfl, .refl _⟩, rfl, ⟨_, rfl, .refl _⟩, rfl, ⟨_, rfl, .refl _⟩, rfl, trivial⟩ ⟨⟨rfl, rfl, rfl⟩, trivial⟩) ?_
 rintro ⟨h, i⟩ hI
 obtain ⟨hlen, hi8, hiw, heq⟩ := hI
 simp only at hlen hi8 hiw heq
 refine wc_of ?_
 have hal : h.length + 1 ≤ 1048576 := by omega
 have c1 : decide ((i : Int) < (W.length : Int)) = true := dT (by omega)
 have hwi : IntKind.i64.wrap ((i : Int) + 1) = ((i + 1 : Nat) : Int) := wrap_i64 (by omega) (by omega)
 obtain ⟨w, hw⟩ : ∃ w, W[i]? = some w := ⟨_, List.getElem?_eq_getElem hiw⟩
 have gi : W[((i : Int)).toNat]? = some w := by rw [Int.toNat_natCast]; exact hw
 have hwlen := hmem w (List.mem_of_getElem? hw)
 obtain ⟨y, hrd, hy⟩ := rdev_is w (by omega)
 have hdrop : W.drop i = w :: W.drop (i + 1) := by rw [List.drop_eq_getElem_cons hiw, (List.getElem?_eq_some_iff.1 hw).2]
 rw [hdrop] at heq
 refine qR ?_;iterate 2 refine rC ?_
 refine rQ iE ?_;refine rC ?_;refine nS ?_;refine wT ?_;refine kS ?_;refine wc_seq ?_;refine wc_block ?_;refine qR ?_;iterate 2 refine rC ?_
 refine rQ iE ?_;refine rQ (sub_int tab_ok rfl rfl (wrap_i64 (by omega) (by omega))) ?_;iterate 2 refine rC ?_
 by_cases hlast : i + 1 = W.length
 ·have c2 : decide ((i : Int) = (W.length : Int) - 1) = true := dT (by omega)
  have hd0 : W.drop (i + 1) = [] := List.drop_eq_nil_of_le (by omega)
  rw [hd0, hparseR] at heq
  refine rO ?_;refine rC ?_;refine rO ?_;refine rC ?_;refine rO ?_;refine rQ (index_arr (xs := W) tab_ok rfl rfl rfl rfl rfl (by omega) gi) ?_;refine rO ?_;refine rQ iL ?_
  refine rO ?_;refine rQ (eql_s (a := w) (b := []) tab_ok rfl rfl rfl) ?_;refine rQ iT ?_;refine nS ?_
  by_cases hz : w = []
  ·have dz : decide (w = []) = true := dT hz
   rw [if_pos hz] at heq
   rw [← heq]
   refine wT ?_;refine wc_exit ?_;refine seq_x ?_;refine blk_y rfl ?_;refine seq_x ?_;refine loop_x ?_;refine blk_x ?_;refine seq_n ?_;refine sR ?_;refine reg_freeze (env' := [(6, _)]) (h' := []) 65 _ rfl ⟨⟨_, rfl, Frz.own rfl⟩, trivial⟩ trivial ?_
   iterate 4 refine rC ?_
   refine nS ?_;refine wc_ret ?_
   exact ⟨trivial, [], lf⟩
  ·have dz : decide (w = []) = false := dF hz
   rw [if_neg hz] at heq
   rw [← heq]
   obtain ⟨b, hb⟩ : ∃ b, (evR w).isSome = b := ⟨_, rfl⟩
   rw [hb] at hrd
   refine wF ?_;refine kS ?_;refine sR ?_;iterate 2 refine rC ?_
   refine rQ (index_arr (xs := W) tab_ok rfl rfl rfl rfl rfl (by omega) gi) ?_;refine rQ iL ?_;refine rQ (call_r hrd rfl rfl (arg_e arg_nil) (.inl rfl) (fun _ => rfl)) ?_
   iterate 3 refine rC ?_
   refine rN ?_;refine rW ?_;refine rC ?_;refine nQ ?_;refine sR ?_;iterate 2 refine rC ?_
   refine rQ iE ?_;refine rQ (sub_int tab_ok rfl rfl (wrap_i64 (by omega) (by omega))) ?_;iterate 2 refine rC ?_
   iterate 2 refine rS ?_
   refine rQ iT ?_;refine nS ?_;refine wV ?_;refine sR ?_;refine rC ?_;refine rQ (add_int (m := ((i + 1 : Nat) : Int)) tab_ok rfl rfl hwi) ?_;iterate 3 refine rC ?_
   refine nS ?_;refine wc_ret ?_;refine seq_r ?_;refine blk_r ?_;refine seq_r ?_;refine loop_r ?_;refine blk_r ?_;refine seq_r ?_
   exact ⟨trivial, [], .of rfl rfl rfl rfl rfl ⟨⟨_, rfl, AVLe.tup1 (nil_arr _ _) rfl⟩, rfl, trivial⟩ trivial⟩
 ·have c2 : decide ((i : Int) = (W.length : Int) - 1) = false := dF (by omega)
  obtain ⟨w2, ws, hws⟩ : ∃ a b, W.drop (i + 1) = a :: b := List.exists_cons_of_ne_nil (fun e => by
   have := congrArg List.length e
   simp at this
   omega)
  rw [hws, hparseR, ← hws] at heq
  iterate 5 refine rS ?_
  refine rQ iF ?_;refine nS ?_;refine wG ?_;refine kS ?_;refine sR ?_;iterate 2 refine rC ?_
  refine rQ (index_arr (xs := W) tab_ok rfl rfl rfl rfl rfl (by omega) gi) ?_;refine rQ iL ?_;refine rQ (call_r hrd rfl rfl (arg_e arg_nil) (.inl rfl) (fun _ => rfl)) ?_
  iterate 3 refine rC ?_
  refine rN ?_;refine rW ?_;refine rC ?_;refine nQ ?_;refine sR ?_;iterate 2 refine rC ?_
  refine rQ iE ?_;refine rQ (sub_int tab_ok rfl rfl (wrap_i64 (by omega) (by omega))) ?_;iterate 2 refine rC ?_
  refine rO ?_;refine rC ?_;refine rO ?_;refine rC ?_;refine rQ iF ?_;refine nS ?_
  cases hev : evR w with
  | none =>
   rw [hev] at hrd heq
   simp only [Option.isSome] at hrd
   simp only at heq
   rw [← heq]
   refine wV ?_;refine sR ?_;refine rC ?_;refine rQ (add_int (m := ((i + 1 : Nat) : Int)) tab_ok rfl rfl hwi) ?_;iterate 3 refine rC ?_
   refine nS ?_;refine wc_ret ?_;refine seq_r ?_;refine blk_r ?_;refine seq_r ?_;refine loop_r ?_;refine blk_r ?_;refine seq_r ?_
   exact ⟨trivial, [], .of rfl rfl rfl rfl rfl ⟨⟨_, rfl, AVLe.tup1 (nil_arr _ _) rfl⟩, rfl, trivial⟩ trivial⟩
  | some x =>
   have := hy x hev
   subst this
   obtain ⟨x, rfl⟩ : ∃ x, x = y := ⟨y, rfl⟩
   rw [hev] at hrd heq
   simp only [Option.isSome] at hrd
   simp only at heq
   refine wG ?_;refine kS ?_;refine qR ?_;iterate 2 refine rC ?_
   refine nS ?_
   by_cases h8 : 8192 ≤ i
   ·have e8 : decide ((8192 : Int) ≤ (i : Int)) = true := dT (by omega)
    rw [if_pos h8] at heq
    rw [← heq]
    refine wT ?_;refine sR ?_;refine rC ?_;refine rQ (add_int (m := ((i + 1 : Nat) : Int)) tab_ok rfl rfl hwi) ?_;iterate 3 refine rC ?_
    refine nS ?_;refine wc_ret ?_;refine seq_r ?_;refine blk_r ?_;refine seq_r ?_;refine loop_r ?_;refine blk_r ?_;refine seq_r ?_
    exact ⟨trivial, [], .of rfl rfl rfl rfl rfl ⟨⟨_, rfl, AVLe.tup1 (nil_arr _ _) rfl⟩, rfl, trivial⟩ trivial⟩
   ·have e8 : decide ((8192 : Int) ≤ (i : Int)) = false := dF (by omega)
    rw [if_neg h8] at heq
    have hfit := fits_is h x (by omega)
    refine wF ?_;refine kS ?_;refine qR ?_;refine rC ?_;refine rQ iM ?_;refine rQ (call_r hfit rfl rfl (arg_own rfl (arg_e arg_nil)) (.inr (PlainRes.sc _)) (fun _ => rfl)) ?_
    refine rC ?_;refine nS ?_
    cases hb : fitB h x with
    | false =>
     unfold FitIs at hfit
     rw [hb] at hfit heq
     simp only [Bool.false_eq_true, if_false] at heq
     rw [← heq]
     refine wV ?_;refine sR ?_;refine rC ?_;refine rQ (add_int (m := ((i + 1 : Nat) : Int)) tab_ok rfl rfl hwi) ?_;iterate 3 refine rC ?_
     refine nS ?_;refine wc_ret ?_;refine seq_r ?_;refine blk_r ?_;refine seq_r ?_;refine loop_r ?_;refine blk_r ?_;refine seq_r ?_
     exact ⟨trivial, [], .of rfl rfl rfl rfl rfl ⟨⟨_, rfl, AVLe.tup1 (nil_arr _ _) rfl⟩, rfl, trivial⟩ trivial⟩
    | true =>
     unfold FitIs at hfit
     rw [hb] at hfit heq
     rw [if_pos rfl] at heq
     have hl1 : h.length + 1 = (h ++ [x]).length := by simp
     refine wG ?_;refine kS ?_;refine wc_region ?_;refine rC ?_;refine rQ iM ?_;refine reg_new (build_slice (s := 38) tab_ok rfl rfl rfl rfl rfl rfl rfl rfl) rfl ?_;refine reg_new2 (append_one (enc := encEv) (s := 38) (xs := h) tab_ok x rfl rfl rfl rfl rfl rfl rfl rfl rfl hal rfl) rfl ?_
     refine rC ?_;refine reg_nil ?_;refine blk_n ?_;refine seq_n ?_;refine wc_region ?_;refine rC ?_;refine rQ (add_int (m := ((i + 1 : Nat) : Int)) tab_ok rfl rfl hwi) ?_
     refine rC ?_;refine reg_nil ?_
     exact loop_n (h ++ [x], i + 1) [(65, some _)] ⟨by rw [← hl1]; omega, show i + 1 ≤ 8192 by omega, show i + 1 < W.length by omega, heq⟩ (by show W.length - (i + 1) < W.length - i; omega) (.of rfl rfl rfl rfl rfl ⟨⟨_, rfl, .refl _⟩, rfl, ⟨_, rfl, .refl _⟩, rfl, ⟨_, rfl, AVLe.of_eq (congrArg (fun n => AV.own _ 0 n 38 none) hl1)⟩, rfl, ⟨_, rfl, .refl _⟩, rfl, trivial⟩ ⟨⟨rfl, rfl, _, rfl, .refl _⟩, trivial⟩)
theorem rparse24_is (s : List UInt8) (hs : s.length ≤ 1048575) : FnIs Tryz.prog 29 [.d (strD s)] [] (rhpR (hparse s rd0 [] 1).1 (hparse s rd0 [] 1).2.1 (hparse s rd0 [] 1).2.2) [] := by
 have := rparse24_main s hs _ rfl
 rwa [hparse_same s.length s rd0 [] 0 (Nat.le_refl _) track0] at this
end Go.Proofs.YtmojbghcngdkpaaGreatDoor
