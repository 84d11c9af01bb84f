/- Texts of the proof: Z20, ZO. -/
import Derived.Test.YthiijfbcfoifnaaGreatDoorG05
import Derived.Test.YthiijfbcfoifnaaGreatDoorG04
import Derived.Test.YthiijfbcfoifnaaGreatDoorG02

set_option linter.unusedVariables false
set_option linter.unusedSimpArgs false
set_option linter.unusedSectionVars false

namespace Go.Proofs.YthiijfbcfoifnaaGreatDoor
open Go.Eng Go.Plain
set_option maxHeartbeats 8000000
set_option maxRecDepth 20000
attribute [local irreducible] WC RegS RegD SeqQ BlkQ ScoQ RegK CutK Sat SatN FnIs LoopQ StepIs OpIs
def cK (k : Int) (l : List SAct) : Nat := l.countP fun a => decide (a.kind = k)
theorem cK_app (k : Int) (l : List SAct) (a : SAct) : cK k (l ++ [a]) = cK k l + if a.kind = k then 1 else 0 := by
 rw [cK, cK, List.countP_append, List.countP_cons, List.countP_nil, Nat.zero_add]
 by_cases h : a.kind = k <;> simp [h]
def cnt6 (l : List SAct) : List Int := [(cK 0 l : Int), (cK 1 l : Int), (cK 2 l : Int), (cK 3 l : Int), (cK 4 l : Int), (cK 5 l : Int)]
theorem cnt6_get (l : List SAct) {k : Nat} (h : k < 6) : (cnt6 l)[k]? = some (cK k l : Int) := by
 match k, h with
 | 0, _ => rfl
 | 1, _ => rfl
 | 2, _ => rfl
 | 3, _ => rfl
 | 4, _ => rfl
 | 5, _ => rfl
theorem cnt6_lt (l : List SAct) (a : SAct) {k : Nat} (h : k < 6) (hk : a.kind = k) : (cnt6 l).set k ((cK k l : Int) + 1) = cnt6 (l ++ [a]) := by
 simp only [cnt6, cK_app, hk]
 match k, h with
 | 0, _ => simp
 | 1, _ => simp
 | 2, _ => simp
 | 3, _ => simp
 | 4, _ => simp
 | 5, _ => simp
theorem cnt6_ge (l : List SAct) (a : SAct) (h : ¬ a.kind < 6) : cnt6 (l ++ [a]) = cnt6 l := by
 simp only [cnt6, cK_app]
 rw [if_neg (by omega), if_neg (by omega), if_neg (by omega), if_neg (by omega), if_neg (by omega), if_neg (by omega)]
 rfl
theorem cK_P (l : List SAct) : cA isP l = cK 1 l := rfl
theorem cK_F (l : List SAct) : cA isF l = cK 5 l := rfl
theorem cK_E (l : List SAct) : cA isE l = cK 2 l + cK 3 l + cK 4 l := by
 induction l with
 | nil => rfl
 | cons a l ih =>
  simp only [cA, cK, List.countP_cons] at ih ⊢
  rw [ih]
  by_cases h2 : a.kind = 2
  ·simp [isE, h2]; omega
  by_cases h3 : a.kind = 3
  ·simp [isE, h3]; omega
  by_cases h4 : a.kind = 4
  ·simp [isE, h4]; omega
  simp [isE, h2, h3, h4]
theorem cK_le (k : Int) (l : List SAct) : cK k l ≤ l.length := List.countP_le_length
theorem take1 {α : Type} {l : List α} {i : Nat} {a : α} (h : l[i]? = some a) : (l.drop i).take (i + 1 - i) = [a] := by
 rw [show i + 1 - i = 1 by omega, List.take_one, List.head?_drop, h]; rfl
theorem scr_le (bs : List SAct) : DLe (.cons r26.zero (.cons (.sc nil_) (.cons (encAs bs) .nil))) (encScr zCfg [] bs) := by
 rintro w X cs ⟨c1, x1, rfl, h1, c2, x2, rfl, h2, c3, x3, rfl, h3, h4⟩
 exact ⟨c1, _, rfl, h1, c2, _, rfl, .inl ⟨rfl, h2.1⟩, c3, _, rfl, h3, h4⟩
theorem dle_eq {x y : D} (h : x = y) : DLe x y := by subst h; exact .refl _
theorem law34_picks (ts : List Int) (bs : List SAct) (hk : ∀ a ∈ bs, 0 ≤ a.kind ∧ a.kind ≤ 255) : FnIs Tryz.prog 6 [.d (.arr 1 i6 ts), .d (encAs bs)] [] (.bool true) [] := by
 refine fnIs_of tab_ok Tryz.func6 rfl rfl rfl ?_
 by_cases h1 : 50 < ts.length
 ·have d1 : decide (50 < (ts.length : Int)) = true := dT (by omega)
  refine sR ?_;refine rC ?_;refine nQ ?_;refine sR ?_;refine rC ?_;refine rQ iE ?_;iterate 2 refine rC ?_
  iterate 3 refine rS ?_
  refine rQ iT ?_;refine nS ?_;refine wV ?_;refine sR ?_;refine rQ (call_r lives_is rfl rfl arg_nil (.inl rfl) (fun _ => rfl)) ?_;refine rC ?_;refine nS ?_;refine wc_ret ?_
  refine seq_r ?_
  exact ⟨trivial, [], lf⟩
 have d1 : decide (50 < (ts.length : Int)) = false := dF (by omega)
 by_cases h2 : 50 < bs.length
 ·have d2 : decide (50 < (bs.length : Int)) = true := dT (by omega)
  refine sR ?_;refine rC ?_;refine nQ ?_;refine sR ?_;refine rC ?_;refine rQ iE ?_;iterate 2 refine rC ?_
  refine rO ?_;refine rC ?_;refine rO ?_;refine rQ iE ?_;refine rO ?_;refine rC ?_;refine rQ iF ?_;refine nS ?_;refine wT ?_;refine sR ?_;refine rQ (call_r lives_is rfl rfl arg_nil (.inl rfl) (fun _ => rfl)) ?_
  refine rC ?_;refine nS ?_;refine wc_ret ?_;refine seq_r ?_
  exact ⟨trivial, [], lf⟩
 have d2 : decide (50 < (bs.length : Int)) = false := dF (by omega)
 have hpk := picks_is ts (by omega)
 have hct := countA_is zCfg [] bs (by omega)
 have hml : (ts.map pickA).length = ts.length := List.length_map _
 have d3 : (!decide (((ts.map pickA).length : Int) = (ts.length : Int))) = false := by rw [dT (by omega)]; rfl
 have d4 : (!decide (((ts.map pickA).length : Int) = ((ts.map pickA).length : Int))) = false := by rw [dT rfl]; rfl
 refine sR ?_;refine rC ?_;refine nQ ?_;refine sR ?_;refine rC ?_;refine rQ iE ?_;iterate 2 refine rC ?_
 refine rO ?_;refine rC ?_;refine rO ?_;refine rQ iE ?_;refine rO ?_;refine rC ?_;refine rQ iF ?_;refine nS ?_;refine wF ?_;refine kS ?_;refine sR ?_;refine rC ?_
 refine rQ (call_r hpk rfl rfl (arg_e arg_nil) (.inl rfl) (fun _ => rfl)) ?_;refine rC ?_;refine nQ ?_;refine sR ?_;refine rC ?_;refine rQ (len_arx tab_ok rfl rfl) ?_
 refine rC ?_;refine rQ iE ?_;iterate 2 refine rC ?_
 refine rO ?_;refine rC ?_;refine rO ?_;refine rQ (cap_arx tab_ok rfl rfl) ?_;refine rO ?_;refine rC ?_;refine rO ?_;refine rQ (len_arx tab_ok rfl rfl) ?_;refine rO ?_
 refine rC ?_;refine rQ iF ?_;refine nS ?_;refine wF ?_;refine kS ?_;refine qR ?_;refine rC ?_;refine nS ?_;refine wc_block ?_
 refine wc_inv (fun i : Nat => ⟨[(6, .int .i64 i), (5, .d (encAs (ts.map pickA))), (0, .d (.arr 1 i6 ts)), (1, .d (encAs bs))], [], 72, Tryz.f6.ntmps, 64⟩) (fun i => i ≤ ts.length) (fun i => ts.length - i) 0 [] (Nat.zero_le _)
  (.of rfl rfl rfl rfl rfl ⟨⟨_, rfl, .refl _⟩, rfl, ⟨_, rfl, AVLe.d DLe.arx_arr rfl⟩, rfl, ⟨_, rfl, .refl _⟩, rfl, ⟨_, rfl, .refl _⟩, rfl, trivial⟩ trivial) ?_
 intro i hi
 refine wc_of ?_
 by_cases hlt : i < ts.length
 ·have d0 : decide ((i : Int) < ((ts.map pickA).length : Int)) = true := dT (by omega)
  obtain ⟨x, hx⟩ : ∃ x, ts[i]? = some x := ⟨_, List.getElem?_eq_getElem hlt⟩
  have hx2 : ts[((i : Int)).toNat]? = some x := by rw [Int.toNat_natCast]; exact hx
  have hiL : i + 1 ≤ (ts.map pickA).length := by omega
  have hsl : D.arr 5 encAct (((ts.map pickA).drop i).take (i + 1 - i)) = encAs [pickA x] := by rw [take1 (a := pickA x) (by rw [List.getElem?_map, hx]; rfl)]
  have hle1 : DLe (.arr 5 encAV [(true, pickA x)]) (encAs [pickA x]) := encAVs_le rfl fun y hy => by
   obtain rfl := List.mem_singleton.1 hy
   exact fun _ => rfl
  have hal := alike_is [pickA x] [pickA x] (by simp) (by simp)
  rw [if_pos rfl] at hal
  refine qR ?_;iterate 2 refine rC ?_
  refine rQ iE ?_;refine rC ?_;refine nS ?_;refine wT ?_;refine kS ?_;refine wc_seq ?_;refine wc_block ?_;refine wc_seq ?_;refine wc_draw (by kernel_rfl) ?_;refine dC [5] [] ?_
  iterate 2 refine dC [6] [] ?_
  refine dQ [43] [] iD ?_;refine dQ [41, 42, 44] [] (slice_mid (m := i) (q := i + 1) tab_ok rfl rfl rfl rfl rfl rfl (by omega) hiL) ?_;refine dC [0] [] ?_;refine dC [6] [] ?_
  refine dQ [46, 47] [] (index_arr tab_ok rfl rfl rfl rfl rfl (by omega) hx2) ?_;refine dQ [48] [] iL ?_;refine dQ [49] [] iS ?_;refine dQ [50] [] (StepIs.frozen (build_slice (s := 5) tab_ok rfl rfl rfl rfl rfl rfl rfl rfl) (Frz.lits1 (enc := encAV) (true, pickA x) rfl rfl)) ?_
  refine dQ [45, 51] [] (call_r hal rfl rfl (arg_d rfl trivial (dle_eq hsl) (arg_d rfl trivial hle1 arg_nil)) (.inl rfl) (fun _ => rfl)) ?_;refine dC [52] [] ?_;refine dreg_end (by kernel_rfl) ?_
  refine seq_n ?_;refine wG ?_;refine wc_skip ?_;refine blk_n ?_;refine seq_n ?_;refine wc_region ?_;refine rC ?_;refine rQ iD ?_;refine rC ?_;refine reg_nil ?_
  exact loop_n (i + 1) [] hlt (by omega) (.of rfl rfl rfl rfl rfl ⟨⟨_, rfl, .refl _⟩, rfl, ⟨_, rfl, .refl _⟩, rfl, ⟨_, rfl, .refl _⟩, rfl, ⟨_, rfl, .refl _⟩, rfl, trivial⟩ trivial)
 ·have he : i = ts.length := by omega
  subst he
  have d0 : decide ((ts.length : Int) < ((ts.map pickA).length : Int)) = false := dF (by omega)
  refine qR ?_;iterate 2 refine rC ?_
  refine rQ iE ?_;refine rC ?_;refine nS ?_;refine wF ?_;refine wc_exit ?_;refine seq_x ?_;refine loop_x ?_;refine blk_x ?_;refine seq_n ?_;refine sR ?_;refine rQ (build_array tab_ok rfl rfl rfl) ?_
  refine rN ?_;refine rW ?_;refine nQ ?_;refine sR ?_;refine rC ?_;refine nS ?_;refine wc_block ?_
  refine wc_inv (fun i : Nat => ⟨[(8, .int .i64 i), (1, .d (encAs bs)), (7, .ptr 64 [])], [(64, some (.box 53 (.d (.vec 6 1 i6 (cnt6 (bs.take i))))))], 72, Tryz.f6.ntmps, 64⟩) (fun i => i ≤ bs.length) (fun i => bs.length - i) 0 [(64, some _)] (Nat.zero_le _)
   (.of rfl rfl rfl rfl rfl ⟨⟨_, rfl, .refl _⟩, rfl, ⟨_, rfl, .refl _⟩, rfl, ⟨_, rfl, .refl _⟩, rfl, trivial⟩ ⟨⟨rfl, rfl, _, rfl, RowLe.box_d (DLe.chain_vec (fun _ _ _ _ h => by rw [h.1]; rfl) [(0 : Int), 0, 0, 0, 0, 0] _ rfl)⟩, trivial⟩) ?_
  intro i hi
  refine wc_of ?_
  by_cases hlt : i < bs.length
  ·have d5 : decide ((i : Int) < (bs.length : Int)) = true := dT (by omega)
   obtain ⟨a, ha⟩ : ∃ a, bs[i]? = some a := ⟨_, List.getElem?_eq_getElem hlt⟩
   have ha2 : bs[((i : Int)).toNat]? = some a := by rw [Int.toNat_natCast]; exact ha
   obtain ⟨hk0, hk1⟩ := hk a (List.mem_of_getElem? ha)
   have htk : bs.take (i + 1) = bs.take i ++ [a] := by rw [List.take_add_one, ha]; rfl
   by_cases h6 : a.kind < 6
   ·have d6 : decide (a.kind < 6) = true := dT h6
    have hkn : ((a.kind.toNat : Nat) : Int) = a.kind := Int.toNat_of_nonneg hk0
    have hget : (cnt6 (bs.take i))[a.kind.toNat]? = some ((cK a.kind (bs.take i) : Nat) : Int) := by
     have := cnt6_get (bs.take i) (k := a.kind.toNat) (by omega)
     rwa [hkn] at this
    have hset : (cnt6 (bs.take i)).set a.kind.toNat (((cK a.kind (bs.take i) : Nat) : Int) + 1) = cnt6 (bs.take (i + 1)) := by
     have := cnt6_lt (bs.take i) a (k := a.kind.toNat) (by omega) hkn.symm
     rw [hkn] at this
     rw [htk]; exact this
    have hbd := cK_le a.kind (bs.take i)
    rw [List.length_take] at hbd
    refine qR ?_;iterate 2 refine rC ?_
    refine rQ iE ?_;refine rC ?_;refine nS ?_;refine wT ?_;refine kS ?_;refine wc_seq ?_;refine wc_block ?_;refine sR ?_;iterate 2 refine rC ?_
    refine rQ (index_arr tab_ok rfl rfl rfl rfl rfl (by omega) ha2) ?_;refine rC ?_;refine rQ iL ?_;refine rC ?_;refine nS ?_;refine wT ?_;refine wc_region ?_;iterate 2 refine rC ?_
    refine rQ (index_arr tab_ok rfl rfl rfl rfl rfl (by omega) ha2) ?_;refine rC ?_;refine rQ iL ?_;refine rQ (step_C tab_ok (fun K hk => ⟨by omega, by omega, hk⟩)) ?_
    refine rQ (load_row (v := .int .i64 (cK a.kind (bs.take i))) tab_ok rfl rfl ⟨_, ⟨rfl, _, hget, rfl⟩, rfl⟩ rfl) ?_;refine rQ iD ?_;refine rQ (step_C tab_ok (fun K hk => ⟨by omega, by omega, hk⟩)) ?_
    refine reg_store (store_row tab_ok rfl rfl rfl ⟨_, ⟨_, ⟨rfl, _, ((cK a.kind (bs.take i) : Nat) : Int) + 1, hget, ⟨rfl, rfl, rfl⟩, rfl⟩, rfl⟩, rfl⟩ rfl) ?_;refine reg_nil ?_
    refine blk_n ?_;refine seq_n ?_;refine wc_region ?_;refine rC ?_;refine rQ iD ?_;refine rC ?_;refine reg_nil ?_
    exact loop_n (i + 1) [(64, some _)] hlt (by omega) (.of rfl rfl rfl rfl rfl ⟨⟨_, rfl, .refl _⟩, rfl, ⟨_, rfl, .refl _⟩, rfl, ⟨_, rfl, .refl _⟩, rfl, trivial⟩ ⟨⟨rfl, rfl, _, rfl, RowLe.of_eq (by rw [← hset]; rfl)⟩, trivial⟩)
   ·have d6 : decide (a.kind < 6) = false := dF h6
    have hset := cnt6_ge (bs.take i) a h6
    refine qR ?_;iterate 2 refine rC ?_
    refine rQ iE ?_;refine rC ?_;refine nS ?_;refine wT ?_;refine kS ?_;refine wc_seq ?_;refine wc_block ?_;refine sR ?_;iterate 2 refine rC ?_
    refine rQ (index_arr tab_ok rfl rfl rfl rfl rfl (by omega) ha2) ?_;refine rC ?_;refine rQ iL ?_;refine rC ?_;refine nS ?_;refine wF ?_;refine wc_skip ?_;refine blk_n ?_
    refine seq_n ?_;refine wc_region ?_;refine rC ?_;refine rQ iD ?_;refine rC ?_;refine reg_nil ?_
    exact loop_n (i + 1) [(64, some _)] hlt (by omega) (.of rfl rfl rfl rfl rfl ⟨⟨_, rfl, .refl _⟩, rfl, ⟨_, rfl, .refl _⟩, rfl, ⟨_, rfl, .refl _⟩, rfl, trivial⟩ ⟨⟨rfl, rfl, _, rfl, RowLe.of_eq (by rw [htk, hset]; rfl)⟩, trivial⟩)
  ·have he : i = bs.length := by omega
   subst he
   have d5 : decide ((bs.length : Int) < (bs.length : Int)) = false := dF (by omega)
   have b2 := cK_le 2 bs
   have b3 := cK_le 3 bs
   have b4 := cK_le 4 bs
   rw [cK_P, cK_F, cK_E] at hct
   have q1 : decide (((cK 1 bs : Nat) : Int) = ((cK 1 bs : Nat) : Int)) = true := dT rfl
   have q2 : decide (((cK 2 bs + cK 3 bs + cK 4 bs : Nat) : Int) = ((cK 2 bs : Nat) : Int) + ((cK 3 bs : Nat) : Int) + ((cK 4 bs : Nat) : Int)) = true := dT (by omega)
   have q3 : decide (((cK 5 bs : Nat) : Int) = ((cK 5 bs : Nat) : Int)) = true := dT rfl
   rw [List.take_length]
   refine qR ?_;iterate 2 refine rC ?_
   refine rQ iE ?_;refine rC ?_;refine nS ?_;refine wF ?_;refine wc_exit ?_;refine seq_x ?_;refine loop_x ?_;refine blk_x ?_;refine seq_n ?_;refine sR ?_;refine rC ?_
   refine rQ iS ?_;refine rQ (call_r hct rfl rfl (arg_d rfl trivial (scr_le bs) arg_nil) (.inl rfl) (fun _ => rfl)) ?_;iterate 7 refine rC ?_
   refine nR ?_;refine rC ?_;refine rQ (step_C tab_ok (fun K hk => ⟨by omega, by omega, hk⟩)) ?_;refine rQ (load_row (v := .int .i64 (cK 1 bs)) tab_ok rfl rfl ⟨_, ⟨rfl, _, cnt6_get bs (k := 1) (by decide), rfl⟩, rfl⟩ rfl) ?_
   iterate 2 refine rC ?_
   refine rO ?_;refine rC ?_;refine rO ?_;refine rQ (step_C tab_ok (fun K hk => ⟨by omega, by omega, hk⟩)) ?_;refine rO ?_;refine rQ (load_row (v := .int .i64 (cK 2 bs)) tab_ok rfl rfl ⟨_, ⟨rfl, _, cnt6_get bs (k := 2) (by decide), rfl⟩, rfl⟩ rfl) ?_
   refine rO ?_;refine rQ (step_C tab_ok (fun K hk => ⟨by omega, by omega, hk⟩)) ?_;refine rO ?_;refine rQ (load_row (v := .int .i64 (cK 3 bs)) tab_ok rfl rfl ⟨_, ⟨rfl, _, cnt6_get bs (k := 3) (by decide), rfl⟩, rfl⟩ rfl) ?_
   refine rO ?_;refine rQ iD ?_;refine rO ?_;refine rQ (step_C tab_ok (fun K hk => ⟨by omega, by omega, hk⟩)) ?_;refine rO ?_;refine rQ (load_row (v := .int .i64 (cK 4 bs)) tab_ok rfl rfl ⟨_, ⟨rfl, _, cnt6_get bs (k := 4) (by decide), rfl⟩, rfl⟩ rfl) ?_
   refine rO ?_;refine rQ iD ?_;refine rO ?_;refine rC ?_;refine rQ iT ?_;refine rC ?_;refine rO ?_;refine rC ?_;refine rO ?_;refine rQ (step_C tab_ok (fun K hk => ⟨by omega, by omega, hk⟩)) ?_
   refine rO ?_;refine rQ (load_row (v := .int .i64 (cK 5 bs)) tab_ok rfl rfl ⟨_, ⟨rfl, _, cnt6_get bs (k := 5) (by decide), rfl⟩, rfl⟩ rfl) ?_;refine rO ?_;refine rC ?_
   refine rQ iT ?_;refine rC ?_;refine rO ?_;refine rQ (call_r lives_is rfl rfl arg_nil (.inl rfl) (fun _ => rfl)) ?_;refine rQ iT ?_;refine rC ?_;refine nS ?_;refine wc_ret ?_
   exact ⟨trivial, [], lf⟩
end Go.Proofs.YthiijfbcfoifnaaGreatDoor
namespace Go.Proofs.YthiijfbcfoifnaaGreatDoor
open Go.Eng Go.Plain
theorem pu8_of {a : Int} (h : (Lit.int .u8 a).wf = true) : 0 ≤ a ∧ a ≤ 255 := by
 simp [Lit.wf, IntKind.min, IntKind.max, IntKind.bits, IntKind.signed] at h
 omega
theorem pi64_of {a : Int} (h : (Lit.int .i64 a).wf = true) : InI a := by
 simp [Lit.wf, IntKind.min, IntKind.max, IntKind.bits, IntKind.signed] at h
 exact ⟨by omega, by omega⟩
def toB (l : List Int) : List UInt8 := l.map fun z => z.toNat.toUInt8
theorem toB_byI {l : List Int} (h : ∀ a ∈ l, (Lit.int .u8 a).wf = true) : byI (toB l) = l := by
 rw [byI, toB, List.map_map]
 have : ∀ a ∈ l, ((fun b : UInt8 => (b.toNat : Int)) ∘ fun z : Int => z.toNat.toUInt8) a = a := fun a ha => by
  obtain ⟨h1, h2⟩ := pu8_of (h a ha)
  simp only [Function.comp_apply, Nat.toUInt8_eq, UInt8.toNat_ofNat']
  omega
 rw [List.map_congr_left this, List.map_id'']
 exact fun _ => rfl
theorem opens_bytes : Opens Tryz.prog 34 1 (fun l : List UInt8 => encB l) fun _ => True :=
 Opens.map (opens_slice (P := Tryz.prog) Tryz.underlying34 (by kernel_rfl) (opens_int (P := Tryz.prog) Tryz.underlying5))
  toB (fun l h => by show D.arr 1 encU8 (byI (toB l)) = _; rw [toB_byI h.2]; rfl) (fun _ _ => trivial)
theorem opens_act : Opens Tryz.prog 39 5 encAct SAct.Ok :=
 Opens.map (opens_struct (P := Tryz.prog) Tryz.underlying39 (by kernel_rfl) (fun _ => rfl) (opensF_cons rfl (by kernel_rfl) (opens_int (P := Tryz.prog) Tryz.underlying37) (opensF_cons rfl (by kernel_rfl) (opens_int (P := Tryz.prog) Tryz.underlying3) (opensF_cons rfl (by kernel_rfl) (opens_int (P := Tryz.prog) Tryz.underlying3) (opensF_cons rfl (by kernel_rfl) opens_bytes (opensF_cons rfl (by kernel_rfl) (opens_int (P := Tryz.prog) Tryz.underlying3) opensF_nil))))))
  (fun q => ⟨q.1, q.2.1, q.2.2.1, q.2.2.2.1, q.2.2.2.2.1⟩) (fun _ _ => rfl) (fun _ h => ⟨pu8_of h.1, pi64_of h.2.1, pi64_of h.2.2.1, pi64_of h.2.2.2.2.1⟩)
theorem opens_acts : Opens Tryz.prog 28 1 encAs fun l => ∀ o ∈ l, o.Ok :=
 Opens.map (opens_slice (P := Tryz.prog) Tryz.underlying28 (by kernel_rfl) opens_act) id (fun _ _ => rfl) (fun _ h => h.2)
abbrev encIs (l : List Int) : D := .arr 1 i6 l
theorem opens_ints : Opens Tryz.prog 50 1 encIs fun _ => True :=
 Opens.map (opens_slice (P := Tryz.prog) Tryz.underlying50 (by kernel_rfl) (opens_int (P := Tryz.prog) Tryz.underlying3)) id (fun _ _ => rfl) (fun _ _ => trivial)
end Go.Proofs.YthiijfbcfoifnaaGreatDoor
