/- Texts of the proof: P51. -/
import Derived.Test.YtmojbghcngdkpaaGreatDoorG06

set_option linter.unusedVariables false
set_option linter.unusedSimpArgs false
set_option linter.unusedSectionVars false

namespace Go.Proofs.YtmojbghcngdkpaaGreatDoor
open Go.Eng Go.Plain
set_option maxHeartbeats 4000000
set_option maxRecDepth 20000
set_option linter.unusedVariables false
attribute [local irreducible] WC RegS RegD SeqQ BlkQ ScoQ RegK CutK Sat SatN FnIs LoopQ StepIs OpIs
def fullV (i : Nat) : List (Bool × POp) := (List.range i).map (fun k => (false, fop k)) ++ List.replicate (64 - i) (true, opNil)
theorem fullV_zero : fullV 0 = List.replicate 64 (true, opNil) := by simp [fullV]
theorem fullV_get {i : Nat} (h : i < 64) : (fullV i)[i]? = some (true, opNil) := by
  obtain ⟨k, hk⟩ : ∃ k, 64 - i = k + 1 := ⟨64 - i - 1, by omega⟩
  rw [fullV, hk, List.getElem?_append_right (by simp), List.length_map, List.length_range, Nat.sub_self]
  rfl
theorem fullV_set {i : Nat} (h : i < 64) : (fullV i).set i (false, fop i) = fullV (i + 1) := by
  obtain ⟨k, hk⟩ : ∃ k, 64 - i = k + 1 := ⟨64 - i - 1, by omega⟩
  rw [fullV, fullV, List.set_append_right _ _ (by simp), hk, show 64 - (i + 1) = k by omega, List.length_map, List.length_range, Nat.sub_self, List.range_succ, List.map_append, List.append_assoc]
  rfl
theorem fullV_end : fullV 64 = fullL.map fun o => (false, o) := by simp [fullV, fullL]
abbrev fullW : List (Bool × POp) := fullL.map fun o => (false, o)
theorem fullW_len : fullW.length = 64 := by simp [fullL]
abbrev encXV (l : List (Bool × POp)) : D := .arx 3 encV l
abbrev encAV (l : List (Bool × POp)) : D := .arr 3 encV l
theorem fullW_ok : ∀ x ∈ fullW, VOk x := fun x hx => by
  obtain ⟨o, _, rfl⟩ := List.mem_map.1 hx
  exact fun h => by cases h
theorem xv_le {l : List (Bool × POp)} {p : List POp} (hp : p = l.map (·.2)) (hl : ∀ x ∈ l, VOk x) : DLe (encXV l) (encP p) := fun w X cs h => encPV_le hp hl w X cs (Enc.arx_arr (fun _ _ h => h) cs h)
theorem fullW_map : fullL = fullW.map (·.2) := by simp [Function.comp_def]
def encXN : Option (List (Bool × POp)) → D
  | none => .sc nil_
  | some l => encXV l
def mapN (o : Option (List (Bool × POp))) : List POp := (o.getD []).map (·.2)
theorem encXN_le {o : Option (List (Bool × POp))} (h : ∀ l, o = some l → ∀ x ∈ l, VOk x) : DLe (encXN o) (encP (mapN o)) := by
  cases o with
  | none => exact fun w X cs hc => .inl ⟨rfl, hc.1⟩
  | some l => exact xv_le rfl (h l rfl)
abbrev mostN : List (Option (List (Bool × POp))) := List.replicate 8 (some fullW)
theorem mapN_full : mapN (some fullW) = fullL := by rw [mapN, Option.getD_some, ← fullW_map]
theorem most_dle : DLe (.arr 1 encXN mostN) (encPL mostL) := dle_arr (g := mapN) (by rw [mostL, List.map_replicate, mapN_full]) fun q hq => by
  rw [List.eq_of_mem_replicate hq]
  exact encXN_le fun l hl => by cases hl; exact fullW_ok
theorem nine_dle : DLe (.arr 1 encXN (mostN ++ [none])) (encPL (mostL ++ [[]])) := dle_arr (g := mapN) (by rw [List.map_append, mostL, List.map_replicate, mapN_full]; rfl) fun q hq => by
  rcases List.mem_append.1 hq with hq | hq
  · rw [List.eq_of_mem_replicate hq]
    exact encXN_le fun l hl => by cases hl; exact fullW_ok
  · rw [List.mem_singleton.1 hq]
    exact encXN_le fun l hl => by cases hl
theorem frz_bytes {r te n : Nat} {ex : Bool} {cap : Option Nat} : Frz r (.ds te 1 ex encU8 (List.replicate n (0 : Int))) (.own r 0 n 1 cap) (.d (encB (List.replicate n 0))) := by
  have e : byI (List.replicate n 0) = List.replicate n (0 : Int) := by simp [byI]
  show Frz _ _ _ (.d (.arr 1 encU8 (byI (List.replicate n 0))))
  rw [e]
  exact Frz.own (by simp)
theorem conv_bytesL {T : Tab} {env : Env} {h : Upds} {n : Nat} (hT : TabOk Tryz.prog T) {t t' e : TypeId} {x : Operand} {l : List UInt8} (ht : tdesc T t = some (.slice e)) (he : tdesc T e = some (.int .u8)) (ht' : tdesc T t' = some .string) (hx : evalA env x = some (.d (encB l))) :
    StepIs Tryz.prog (.convert t t' x) env h n (some (.d (strD l))) [] := by
  have := conv_bytes (n := n) (h := h) hT ht he ht' hx
  rwa [strOf_byI] at this
theorem full_dle : DLe (.arr 1 encAV [fullW ++ [(true, opNil)]]) (encPL [fullL ++ [opNil]]) := dle_arr (g := fun l : List (Bool × POp) => l.map (·.2)) (by simp [Function.comp_def]) fun q hq => by
  rw [List.mem_singleton.1 hq]
  exact encPV_le rfl fun x hx => by
    rcases List.mem_append.1 hx with hx | hx
    · exact fullW_ok x hx
    · rw [List.mem_singleton.1 hx]; exact fun _ => rfl
abbrev v65 : Bool × POp := (false, ⟨0, 0, List.replicate 65 0⟩)
theorem v65_dle : DLe (.arr 1 encAV [[v65]]) (encPL [[⟨0, 0, List.replicate 65 0⟩]]) := dle_arr (g := fun l : List (Bool × POp) => l.map (·.2)) rfl fun q hq => by
  rw [List.mem_singleton.1 hq]
  exact encPV_le rfl fun x hx => by rw [List.mem_singleton.1 hx]; exact fun h => by cases h
def encQN : Option (List PQ) → D
  | none => .sc nil_
  | some l => encQs l
theorem qn_dle (X : List (Option (List PQ))) : DLe (.cons (.arr 1 encQN X) .nil) (encPP (X.map fun o => o.getD [])) := DLe.cons (dle_arr rfl fun o _ => by
  cases o with
  | none => exact fun w X cs hc => .inl ⟨rfl, hc.1⟩
  | some l => exact DLe.refl _) (DLe.refl _)
theorem parse_to {s : List UInt8} {x : List (List POp)} {n : Nat} {e : Int} (hs : s.length ≤ 1048576) (h : parseP s [] 1 = (x, n, e)) : FnIs Tryz.prog 47 [.d (strD s)] [] (parR x n e) [] := by
  have := parse_is s hs
  rwa [h] at this
theorem i5_mul (i k : Nat) (h : i * k ≤ 1000000000) : IntKind.i64.wrap ((i : Int) * (k : Int)) = ((i * k : Nat) : Int) := by rw [← Int.natCast_mul]; exact wrap_i64 (by omega) (by omega)
theorem plain_si (l : List UInt8) (n : Int) : PlainRes (.tup (.acons (.d (strD l)) (.acons (.int .i64 n) .anil))) [] := by
  intro σ w X X'
  refine ⟨fun v hv => ?_, fun r row hr => by simp [lk] at hr⟩
  unfold RelV at hv ⊢
  rw [if_neg (by simp [AV.isAgg])] at hv ⊢
  exact hv
abbrev kx (i : Nat) : List (Option (List PQ)) := [some [⟨UInt8.ofNat i, UInt8.ofNat (i * 7), UInt8.ofNat (i * 3)⟩, ⟨UInt8.ofNat (i * 5), UInt8.ofNat i, 9⟩], none, some [⟨UInt8.ofNat (i * 11), 250, UInt8.ofNat i⟩]]
abbrev kp (i : Nat) : List (List PQ) := (kx i).map fun o => o.getD []
abbrev kl (i : Nat) : List UInt8 := [0, UInt8.ofNat i, UInt8.ofNat (i * 3), UInt8.ofNat (i * 5)]
theorem law_known : FnIs Tryz.prog 15 [] [] (.bool true) [] := by
  refine fnIs_of tab_ok Tryz.func15 rfl rfl rfl ?_;refine sR ?_;refine rC ?_;refine nR ?_;refine reg_new (make_full (enc := encV) (s := 3) (N := 64) tab_ok (true, opNil) rfl rfl rfl rfl rfl rfl rfl (by decide) rfl) rfl ?_
  refine rC ?_;refine nQ ?_;refine sR ?_;refine rC ?_;refine nS ?_;refine wc_block ?_
  refine wc_inv (fun i : Nat => ⟨[(2, .int .i64 i), (1, .own 65 0 64 3 none)], [(65, some (.ds 50 3 true encV (fullV i)))], 72, Tryz.f15.ntmps, 64⟩) (fun i => i ≤ 64) (fun i => 64 - i) 0 [(65, some _)] (Nat.zero_le _)
    (.of rfl rfl rfl rfl rfl ⟨⟨_, rfl, .refl _⟩, rfl, ⟨_, rfl, .refl _⟩, rfl, trivial⟩ ⟨⟨rfl, rfl, _, rfl, RowLe.of_eq (by rw [fullV_zero]; rfl)⟩, trivial⟩) ?_
  intro i hi
  by_cases hlt : i < 64
  · have h3 : decide ((i : Int) < 64) = true := decide_eq_true (by omega)
    have hg : (fullV i)[((i : Int)).toNat]? = some (true, opNil) := by rw [Int.toNat_natCast]; exact fullV_get hlt
    have hset := fullV_set hlt
    have hw33 : IntKind.i64.wrap ((i : Int) * 4) = ((i * 4 : Nat) : Int) := by rw [wrap_i64 (by omega) (by omega)]; omega
    have hw34 : IntKind.u8.wrap ((i * 4 : Nat) : Int) = ((i * 4 : Nat) : Int) := wrap_u8n (by omega)
    have hw36 : IntKind.i64.wrap ((i : Int) * 1000) = ((i * 1000 : Nat) : Int) := by rw [wrap_i64 (by omega) (by omega)]; omega
    have hw38 : IntKind.i64.wrap ((i : Int) + 1) = ((i + 1 : Nat) : Int) := by rw [wrap_i64 (by omega) (by omega)]; omega
    have hlen39 : i + 1 ≤ 1048576 := by omega
    refine wc_of ?_;refine qR ?_;iterate 2 refine rC ?_
    refine nS ?_;refine wT ?_;refine kS ?_;refine wc_seq ?_;refine wc_block ?_;refine wc_region ?_;iterate 3 refine rC ?_
    refine rQ (mul_int (m := ((i * 4 : Nat) : Int)) tab_ok rfl rfl hw33) ?_;refine rQ (conv_int (m := ((i * 4 : Nat) : Int)) tab_ok rfl rfl rfl hw34) ?_;refine rC ?_
    refine rQ (mul_int (m := ((i * 1000 : Nat) : Int)) tab_ok rfl rfl hw36) ?_;refine rC ?_;refine rQ (add_int (m := ((i + 1 : Nat) : Int)) tab_ok rfl rfl hw38) ?_;refine rQ (StepIs.frozen (make_full (enc := encU8) (s := 1) (N := i + 1) tab_ok (0 : Int) rfl rfl rfl rfl rfl rfl rfl hlen39 rfl) frz_bytes) ?_
    refine rQ iS ?_;refine rQ (index_own tab_ok rfl rfl rfl rfl rfl (by omega) (by omega)) ?_;refine reg_store (store_row tab_ok rfl rfl rfl ⟨rfl, (true, opNil), (false, fop i), hg, ⟨rfl, rfl, rfl⟩, rfl⟩ rfl) ?_
    refine reg_nil ?_;refine blk_n ?_;refine seq_n ?_;refine wc_region ?_;refine rC ?_;refine rQ iD ?_;refine rC ?_;refine reg_nil ?_
    exact loop_n (i + 1) [(65, some _)] hlt (by omega) (.of rfl rfl rfl rfl rfl ⟨⟨_, rfl, .refl _⟩, rfl, ⟨_, rfl, .refl _⟩, rfl, trivial⟩ ⟨⟨rfl, rfl, _, rfl, RowLe.of_eq (congrArg (Row.ds 50 3 true encV) hset)⟩, trivial⟩)
  have he : i = 64 := by omega
  subst he
  rw [fullV_end]
  have h3 : decide (((64 : Nat) : Int) < 64) = false := rfl
  refine wc_of ?_;refine wc_freeze (env' := [(2, _), (1, _)]) (h' := []) 65 _ rfl ⟨⟨_, rfl, .refl _⟩, ⟨_, rfl, Frz.ownxe fullW_len.symm⟩, trivial⟩ trivial ?_;refine qR ?_
  iterate 2 refine rC ?_
  refine nS ?_;refine wG ?_;refine wc_exit ?_;refine seq_x ?_;refine loop_x ?_;refine blk_x ?_;refine seq_n ?_;refine sR ?_;refine rC ?_;refine nQ ?_;refine sR ?_
  refine rC ?_;refine nS ?_;refine wc_block ?_
  refine wc_inv (fun j : Nat => ⟨[(4, .int .i64 j), (3, .own 66 0 (List.replicate j (some fullW)).length 1 none), (1, .d (encXV fullW))], [(66, some (.ds 77 1 false encXN (List.replicate j (some fullW))))], 72, Tryz.f15.ntmps, 64⟩) (fun j => j ≤ 8) (fun j => 8 - j) 0 [(66, none)] (Nat.zero_le _)
    (.of rfl rfl rfl rfl rfl ⟨⟨_, rfl, .refl _⟩, rfl, ⟨_, rfl, .refl _⟩, rfl, ⟨_, rfl, .refl _⟩, rfl, trivial⟩ ⟨⟨rfl, rfl, rfl⟩, trivial⟩) ?_
  intro j hj
  by_cases hjl : j < 8
  · have h4 : decide ((j : Int) < 8) = true := decide_eq_true (by omega)
    have hlen49 : (List.replicate j (some fullW)).length + 1 ≤ 1048576 := by rw [List.length_replicate]; omega
    have hrep : List.replicate (j + 1) (some fullW) = List.replicate j (some fullW) ++ [some fullW] := List.replicate_succ'
    have hlq : (List.replicate (j + 1) (some fullW)).length = (List.replicate j (some fullW)).length + 1 := by rw [hrep]; simp
    refine wc_of ?_;refine qR ?_;iterate 2 refine rC ?_
    refine nS ?_;refine wT ?_;refine kS ?_;refine wc_seq ?_;refine wc_block ?_;refine wc_region ?_;iterate 2 refine rC ?_
    refine reg_new (build_slice (s := 1) tab_ok rfl rfl rfl rfl rfl rfl rfl rfl) rfl ?_;refine reg_new2 (append_one (xs := List.replicate j (some fullW)) (s := 1) (enc := encXN) tab_ok (some fullW) rfl rfl rfl rfl rfl rfl rfl rfl rfl hlen49 rfl) rfl ?_
    refine rC ?_;refine reg_nil ?_;refine blk_n ?_;refine seq_n ?_;refine wc_region ?_;refine rC ?_;refine rQ iD ?_;refine rC ?_;refine reg_nil ?_
    exact loop_n (j + 1) [(66, some _)] hjl (by omega) (.of rfl rfl rfl rfl rfl ⟨⟨_, rfl, .refl _⟩, rfl, ⟨_, rfl, AVLe.of_eq (by rw [hlq]; rfl)⟩, rfl, ⟨_, rfl, .refl _⟩, rfl, trivial⟩ ⟨⟨rfl, rfl, _, rfl, RowLe.of_eq (by rw [hrep]; rfl)⟩, trivial⟩)
  have he : j = 8 := by omega
  subst he
  have h4 : decide (((8 : Nat) : Int) < 8) = false := rfl
  have ht := text_is mostL (bd_chk most_chk) most_ok
  rw [most_chk, if_pos rfl] at ht
  have hTl := most_text
  have hp := parse_to (by omega) (parse_back most_ok most_chk)
  have hs := rsame_is mostL mostL (by rw [most_len]; decide) (fun p hp => by have := (most_mem p hp).1; omega)
  rw [if_pos rfl] at hs
  have h9 := check_is (mostL ++ [[]]) (by rw [List.length_append, most_len]; decide) (fun p hp => by
    rcases List.mem_append.1 hp with hp | hp
    · have := (most_mem p hp).1; omega
    · rw [List.mem_singleton.1 hp]; decide)
  rw [most_nine] at h9
  have hl9 : mostN.length + 1 = (mostN ++ [none]).length := by rw [List.length_append]; rfl
  have hlen88 : fullW.length + 1 ≤ 1048576 := by rw [fullW_len]; decide
  have hl88 : fullW.length + 1 = (fullW ++ [(true, opNil)]).length := by rw [List.length_append]; rfl
  have h65 := check_is [fullL ++ [opNil]] (by decide) (fun p hp => by rw [List.mem_singleton.1 hp]; decide)
  rw [full_65] at h65
  have hd65 := check_is [[⟨0, 0, List.replicate 65 0⟩]] (by decide) (fun p hp => by rw [List.mem_singleton.1 hp]; decide)
  rw [data_65] at hd65
  have hpc := parse_to (s := textP mostL ++ sCl) (by rw [List.length_append]; have : sCl.length = 7 := rfl; omega) most_client
  have hpf := parse_to (s := textP mostL ++ sFl) (by rw [List.length_append]; have : sFl.length = 6 := rfl; omega) most_flush
  obtain ⟨N1, hN1v⟩ : ∃ n : Nat, n = 1048577 := ⟨_, rfl⟩
  obtain ⟨N2, hN2v⟩ : ∃ n : Nat, n = 1048576 := ⟨_, rfl⟩
  have hN1 : AV.int .i64 1048577 = AV.int .i64 (N1 : Int) := by rw [hN1v]; rfl
  have hN2 : AV.int .i64 1048576 = AV.int .i64 (N2 : Int) := by rw [hN2v]; rfl
  have hN1b : N1 ≤ 2097152 := by omega
  have hN2b : N2 ≤ 2097152 := by omega
  have hpN1 := parse_long (List.replicate N1 0) (by rw [List.length_replicate]; omega)
  have hpN2 := parse_to (s := List.replicate N2 0) (by rw [List.length_replicate]; omega) (zeros_parse (by omega))
  clear hN1v hN2v
  have hT1 : (textP mostL).length + sCl.length ≤ 9223372036854775807 := by have : sCl.length = 7 := rfl; omega
  have hT2 : (textP mostL).length + sFl.length ≤ 9223372036854775807 := by have : sFl.length = 6 := rfl; omega
  generalize textP mostL = T at *
  clear hTl
  have e521 : (!decide ((((521 : Nat) : Int)) = 521)) = false := rfl
  refine wc_of ?_;refine qR ?_;iterate 2 refine rC ?_
  refine nS ?_;refine wG ?_;refine wc_exit ?_;refine seq_x ?_;refine loop_x ?_;refine blk_x ?_;refine seq_n ?_;refine sR ?_;refine rC ?_;refine rQ (call_r ht rfl rfl (arg_ownD (enc := encXN) (xs := mostN) rfl rfl rfl most_dle arg_nil) (.inr (plain_si _ _)) (fun _ => rfl)) ?_
  iterate 5 refine rC ?_
  refine nR ?_;refine rC ?_;refine rQ (call_r hp rfl rfl (arg_e arg_nil) (.inl rfl) (fun _ => rfl)) ?_;iterate 7 refine rC ?_
  refine nQ ?_;refine sR ?_;iterate 3 refine rC ?_
  refine rP ?_;refine rC ?_;refine rP ?_;refine rC ?_;refine rQ iG ?_;refine rC ?_;refine rP ?_;refine rC ?_;refine rP ?_;refine rC ?_;refine rQ iG ?_;refine rC ?_
  refine rP ?_;refine rC ?_;refine rP ?_;refine rC ?_;refine rP ?_;refine rQ (call_r hs rfl rfl (arg_d rfl trivial (xl_dle _) (arg_ownD (enc := encXN) (xs := mostN) rfl rfl rfl most_dle arg_nil)) (.inr (PlainRes.sc _)) (fun _ => rfl)) ?_
  refine rP ?_;refine rC ?_;refine rQ iG ?_;refine rC ?_;refine rP ?_;refine rC ?_;refine rP ?_;refine reg_new (build_slice (s := 1) tab_ok rfl rfl rfl rfl rfl rfl rfl rfl) rfl ?_
  refine rP ?_;refine reg_new2 (append_one (xs := mostN) (s := 1) (enc := encXN) tab_ok none rfl rfl rfl rfl rfl rfl rfl rfl rfl (by decide) rfl) rfl ?_;refine rP ?_
  refine rQ (call_r h9 rfl rfl (arg_ownD (enc := encXN) (xs := mostN ++ [none]) rfl hl9 rfl nine_dle arg_nil) (.inr (PlainRes.sc _)) (fun _ => rfl)) ?_;refine rP ?_
  refine rC ?_;refine rQ iG ?_;refine rC ?_;refine rP ?_;refine rC ?_;refine rP ?_;refine rQ iS ?_;refine rP ?_;refine reg_new (build_slice (s := 3) tab_ok rfl rfl rfl rfl rfl rfl rfl rfl) rfl ?_
  refine rP ?_;refine rQ (StepIs.frozen (append_arx_one (xs := fullW) (s := 3) (enc := encV) tab_ok (true, opNil) rfl rfl rfl rfl rfl rfl rfl rfl rfl hlen88 rfl) (Frz.own hl88)) ?_
  refine rP ?_;refine rQ (StepIs.frozen (build_slice (s := 1) tab_ok rfl rfl rfl rfl rfl rfl rfl rfl) (Frz.lits1 (enc := encAV) (fullW ++ [(true, opNil)]) rfl rfl)) ?_
  refine rP ?_;refine rQ (call_r h65 rfl rfl (arg_d rfl trivial full_dle arg_nil) (.inl rfl) (fun _ => rfl)) ?_;refine rP ?_;refine rC ?_;refine rQ iG ?_;refine rC ?_
  refine rP ?_;refine rQ (StepIs.frozen (make_full (enc := encU8) (s := 1) (N := 65) tab_ok (0 : Int) rfl rfl rfl rfl rfl rfl rfl (by decide) rfl) frz_bytes) ?_;refine rP ?_
  refine rQ iS ?_;refine rP ?_;refine rQ (StepIs.frozen (build_slice (s := 3) tab_ok rfl rfl rfl rfl rfl rfl rfl rfl) (Frz.lits1 (enc := encV) v65 rfl rfl)) ?_;refine rP ?_
  refine rQ (StepIs.frozen (build_slice (s := 1) tab_ok rfl rfl rfl rfl rfl rfl rfl rfl) (Frz.lits1 (enc := encAV) [v65] rfl rfl)) ?_;refine rP ?_;refine rQ (call_r hd65 rfl rfl (arg_d rfl trivial v65_dle arg_nil) (.inl rfl) (fun _ => rfl)) ?_
  refine rP ?_;refine rC ?_;refine rQ iG ?_;refine nS ?_;refine wG ?_;refine kS ?_;refine sR ?_;refine rC ?_;refine rQ (add_str (a := T) (b := sCl) rfl rfl hT1 rfl) ?_
  refine rQ (call_r hpc rfl rfl (arg_e arg_nil) (.inl rfl) (fun _ => rfl)) ?_;iterate 6 refine rC ?_
  refine nR ?_;refine rC ?_;refine rQ (add_str (a := T) (b := sFl) rfl rfl hT2 rfl) ?_;refine rQ (call_r hpf rfl rfl (arg_e arg_nil) (.inl rfl) (fun _ => rfl)) ?_
  iterate 7 refine rC ?_
  refine nR ?_;refine rQ (StepIs.frozen (make_big (enc := encU8) (s := 1) (N := N1) tab_ok (0 : Int) rfl rfl rfl rfl rfl (congrArg some hN1) (congrArg some hN1) hN1b rfl) frz_bytes) ?_
  refine rQ (conv_bytesL (l := List.replicate N1 0) tab_ok rfl rfl rfl rfl) ?_;refine rQ (call_r hpN1 rfl rfl (arg_e arg_nil) (.inl rfl) (fun _ => rfl)) ?_;iterate 7 refine rC ?_
  refine nR ?_;refine rQ (StepIs.frozen (make_big (enc := encU8) (s := 1) (N := N2) tab_ok (0 : Int) rfl rfl rfl rfl rfl (congrArg some hN2) (congrArg some hN2) hN2b rfl) frz_bytes) ?_
  refine rQ (conv_bytesL (l := List.replicate N2 0) tab_ok rfl rfl rfl rfl) ?_;refine rQ (call_r hpN2 rfl rfl (arg_e arg_nil) (.inl rfl) (fun _ => rfl)) ?_;iterate 7 refine rC ?_
  refine nQ ?_;refine sR ?_;iterate 3 refine rC ?_
  refine rP ?_;refine rC ?_;refine rP ?_;refine rC ?_;refine rQ iG ?_;refine rC ?_;refine rP ?_;refine rC ?_;refine rP ?_;refine rC ?_;refine rQ iG ?_;refine rC ?_
  refine rP ?_;refine rC ?_;refine rP ?_;refine rC ?_;refine rQ iG ?_;refine rC ?_;refine rP ?_;refine rC ?_;refine rP ?_;refine rC ?_;refine rQ iG ?_;refine rC ?_
  refine rP ?_;refine rC ?_;refine rP ?_;refine rC ?_;refine rQ iG ?_;refine rC ?_;refine rP ?_;refine rC ?_;refine rP ?_;refine rC ?_;refine rQ iG ?_;refine rC ?_
  refine rP ?_;refine rC ?_;refine rP ?_;refine rC ?_;refine rQ iG ?_;refine nS ?_;refine wG ?_;refine kS ?_;refine qR ?_;refine rQ (StepIs.frozen (build_slice (s := 1) tab_ok rfl rfl rfl rfl rfl rfl rfl rfl) (Frz.litsN (enc := strD) numX rfl (fun _ _ => rfl))) ?_
  refine rQ iE ?_;refine rC ?_;refine nS ?_;refine wc_block ?_
  clear ht hp hs h9 h65 hd65 hpc hpf hpN1 hpN2
  refine wc_inv (fun i : Nat => ⟨[(161, .int .i64 i), (160, .int .i64 8), (159, .d (.arr 1 strD numX))], [], 72, Tryz.f15.ntmps, 64⟩) (fun i => i ≤ 8) (fun i => 8 - i) 0 [] (Nat.zero_le _)
    (.of rfl rfl rfl rfl rfl ⟨⟨_, rfl, .refl _⟩, rfl, ⟨_, rfl, .refl _⟩, rfl, ⟨_, rfl, .refl _⟩, rfl, trivial⟩ trivial) ?_
  intro i hi
  match i, hi with
  | 0, _ =>
    obtain ⟨x, hx⟩ : ∃ x, numX.getD 0 [] = x := ⟨_, rfl⟩
    have hgx : numX[(((0 : Nat) : Int)).toNat]? = some x := by rw [← hx]; rfl
    have hxl : x.length ≤ 20 := by rw [← hx]; decide
    have hx1 : [(99 : UInt8), 108, 105, 101, 110, 116, 10, 114, 101, 97, 100, 32].length + x.length ≤ 9223372036854775807 := by simp only [List.length_cons, List.length_nil]; omega
    have hx2 : ([(99 : UInt8), 108, 105, 101, 110, 116, 10, 114, 101, 97, 100, 32] ++ x).length + [(10 : UInt8)].length ≤ 9223372036854775807 := by simp only [List.length_append, List.length_cons, List.length_nil]; omega
    have hpx := parse_to (by decide) num_0
    rw [hx] at hpx
    clear hx
    refine wc_of ?_;refine sR ?_;refine rC ?_;refine nQ ?_;refine wV ?_;refine kS ?_;refine wc_seq ?_;refine wc_block ?_;refine sR ?_;refine rC ?_;refine rQ (index_arr tab_ok rfl rfl rfl rfl rfl (by omega) hgx) ?_
    refine rQ iL ?_;iterate 2 refine rC ?_
    refine nR ?_;refine rC ?_;refine rQ (add_str (a := [99, 108, 105, 101, 110, 116, 10, 114, 101, 97, 100, 32]) (b := x) rfl rfl hx1 rfl) ?_;refine rQ (add_str (a := [99, 108, 105, 101, 110, 116, 10, 114, 101, 97, 100, 32] ++ x) (b := [10]) rfl rfl hx2 rfl) ?_
    refine rQ (call_r hpx rfl rfl (arg_e arg_nil) (.inl rfl) (fun _ => rfl)) ?_;iterate 7 refine rC ?_
    refine nR ?_;iterate 3 refine rC ?_
    refine rP ?_;refine rC ?_;refine rP ?_;refine rC ?_;refine rP ?_;refine rC ?_;refine rP ?_;refine rC ?_;refine rP ?_;refine rC ?_;refine rP ?_;refine rQ iG ?_;refine rP ?_
    refine rC ?_;refine rP ?_;refine rC ?_;refine rP ?_;refine rQ (len_arx tab_ok rfl rfl) ?_;refine rP ?_;refine rC ?_;refine rP ?_;refine rQ iG ?_;refine rQ iU ?_
    refine rC ?_;refine rP ?_;refine rC ?_;refine rP ?_;refine rC ?_;refine rP ?_;refine rC ?_;iterate 3 refine rT ?_
    iterate 2 refine rU ?_
    refine rT ?_;refine rP ?_;iterate 2 refine rQ iG ?_
    refine nS ?_;refine wG ?_;refine wc_skip ?_;refine blk_n ?_;refine seq_n ?_;refine wc_region ?_;refine rQ iD ?_;refine rC ?_;refine reg_nil ?_
    exact loop_n 1 [] (by decide) (by decide) (.of rfl rfl rfl rfl rfl ⟨⟨_, rfl, .refl _⟩, rfl, ⟨_, rfl, .refl _⟩, rfl, ⟨_, rfl, .refl _⟩, rfl, trivial⟩ trivial)
  | 1, _ =>
    obtain ⟨x, hx⟩ : ∃ x, numX.getD 1 [] = x := ⟨_, rfl⟩
    have hgx : numX[(((1 : Nat) : Int)).toNat]? = some x := by rw [← hx]; rfl
    have hxl : x.length ≤ 20 := by rw [← hx]; decide
    have hx1 : [(99 : UInt8), 108, 105, 101, 110, 116, 10, 114, 101, 97, 100, 32].length + x.length ≤ 9223372036854775807 := by simp only [List.length_cons, List.length_nil]; omega
    have hx2 : ([(99 : UInt8), 108, 105, 101, 110, 116, 10, 114, 101, 97, 100, 32] ++ x).length + [(10 : UInt8)].length ≤ 9223372036854775807 := by simp only [List.length_append, List.length_cons, List.length_nil]; omega
    have hpx := parse_to (by decide) num_1
    rw [hx] at hpx
    clear hx
    refine wc_of ?_;refine sR ?_;refine rC ?_;refine nQ ?_;refine wV ?_;refine kS ?_;refine wc_seq ?_;refine wc_block ?_;refine sR ?_;refine rC ?_;refine rQ (index_arr tab_ok rfl rfl rfl rfl rfl (by omega) hgx) ?_
    refine rQ iL ?_;iterate 2 refine rC ?_
    refine nR ?_;refine rC ?_;refine rQ (add_str (a := [99, 108, 105, 101, 110, 116, 10, 114, 101, 97, 100, 32]) (b := x) rfl rfl hx1 rfl) ?_;refine rQ (add_str (a := [99, 108, 105, 101, 110, 116, 10, 114, 101, 97, 100, 32] ++ x) (b := [10]) rfl rfl hx2 rfl) ?_
    refine rQ (call_r hpx rfl rfl (arg_e arg_nil) (.inl rfl) (fun _ => rfl)) ?_;iterate 7 refine rC ?_
    refine nR ?_;iterate 3 refine rC ?_
    refine rP ?_;refine rC ?_;refine rP ?_;refine rC ?_;refine rP ?_;refine rC ?_;refine rP ?_;refine rC ?_;refine rP ?_;refine rC ?_;refine rP ?_;refine rQ iG ?_;refine rP ?_
    refine rC ?_;refine rP ?_;refine rC ?_;refine rP ?_;refine rQ (len_arx tab_ok rfl rfl) ?_;refine rP ?_;refine rC ?_;refine rP ?_;refine rQ iG ?_;refine rQ iU ?_
    refine rC ?_;refine rP ?_;refine rC ?_;refine rP ?_;refine rC ?_;refine rP ?_;refine rC ?_;iterate 3 refine rT ?_
    iterate 2 refine rU ?_
    refine rT ?_;refine rP ?_;iterate 2 refine rQ iG ?_
    refine nS ?_;refine wG ?_;refine wc_skip ?_;refine blk_n ?_;refine seq_n ?_;refine wc_region ?_;refine rQ iD ?_;refine rC ?_;refine reg_nil ?_
    exact loop_n 2 [] (by decide) (by decide) (.of rfl rfl rfl rfl rfl ⟨⟨_, rfl, .refl _⟩, rfl, ⟨_, rfl, .refl _⟩, rfl, ⟨_, rfl, .refl _⟩, rfl, trivial⟩ trivial)
  | 2, _ =>
    obtain ⟨x, hx⟩ : ∃ x, numX.getD 2 [] = x := ⟨_, rfl⟩
    have hgx : numX[(((2 : Nat) : Int)).toNat]? = some x := by rw [← hx]; rfl
    have hxl : x.length ≤ 20 := by rw [← hx]; decide
    have hx1 : [(99 : UInt8), 108, 105, 101, 110, 116, 10, 114, 101, 97, 100, 32].length + x.length ≤ 9223372036854775807 := by simp only [List.length_cons, List.length_nil]; omega
    have hx2 : ([(99 : UInt8), 108, 105, 101, 110, 116, 10, 114, 101, 97, 100, 32] ++ x).length + [(10 : UInt8)].length ≤ 9223372036854775807 := by simp only [List.length_append, List.length_cons, List.length_nil]; omega
    have hpx := parse_to (by decide) num_2
    rw [hx] at hpx
    clear hx
    refine wc_of ?_;refine sR ?_;refine rC ?_;refine nQ ?_;refine wV ?_;refine kS ?_;refine wc_seq ?_;refine wc_block ?_;refine sR ?_;refine rC ?_;refine rQ (index_arr tab_ok rfl rfl rfl rfl rfl (by omega) hgx) ?_
    refine rQ iL ?_;iterate 2 refine rC ?_
    refine nR ?_;refine rC ?_;refine rQ (add_str (a := [99, 108, 105, 101, 110, 116, 10, 114, 101, 97, 100, 32]) (b := x) rfl rfl hx1 rfl) ?_;refine rQ (add_str (a := [99, 108, 105, 101, 110, 116, 10, 114, 101, 97, 100, 32] ++ x) (b := [10]) rfl rfl hx2 rfl) ?_
    refine rQ (call_r hpx rfl rfl (arg_e arg_nil) (.inl rfl) (fun _ => rfl)) ?_;iterate 7 refine rC ?_
    refine nR ?_;iterate 3 refine rC ?_
    iterate 3 refine rT ?_
    iterate 2 refine rU ?_
    iterate 2 refine rT ?_
    iterate 3 refine rU ?_
    refine rT ?_;refine rQ iG ?_;refine rC ?_;refine rP ?_;refine rC ?_;refine rP ?_;refine rC ?_;refine rP ?_;refine rC ?_;refine rP ?_;refine rC ?_;refine rP ?_;refine rC ?_
    refine rP ?_;refine rC ?_;refine rP ?_;refine rC ?_;refine rP ?_;refine rC ?_;refine rP ?_;refine rQ iG ?_;refine rP ?_;refine rQ iU ?_;refine rQ iG ?_;refine nS ?_
    refine wG ?_;refine wc_skip ?_;refine blk_n ?_;refine seq_n ?_;refine wc_region ?_;refine rQ iD ?_;refine rC ?_;refine reg_nil ?_
    exact loop_n 3 [] (by decide) (by decide) (.of rfl rfl rfl rfl rfl ⟨⟨_, rfl, .refl _⟩, rfl, ⟨_, rfl, .refl _⟩, rfl, ⟨_, rfl, .refl _⟩, rfl, trivial⟩ trivial)
  | 3, _ =>
    obtain ⟨x, hx⟩ : ∃ x, numX.getD 3 [] = x := ⟨_, rfl⟩
    have hgx : numX[(((3 : Nat) : Int)).toNat]? = some x := by rw [← hx]; rfl
    have hxl : x.length ≤ 20 := by rw [← hx]; decide
    have hx1 : [(99 : UInt8), 108, 105, 101, 110, 116, 10, 114, 101, 97, 100, 32].length + x.length ≤ 9223372036854775807 := by simp only [List.length_cons, List.length_nil]; omega
    have hx2 : ([(99 : UInt8), 108, 105, 101, 110, 116, 10, 114, 101, 97, 100, 32] ++ x).length + [(10 : UInt8)].length ≤ 9223372036854775807 := by simp only [List.length_append, List.length_cons, List.length_nil]; omega
    have hpx := parse_to (by decide) num_3
    rw [hx] at hpx
    clear hx
    refine wc_of ?_;refine sR ?_;refine rC ?_;refine nQ ?_;refine wV ?_;refine kS ?_;refine wc_seq ?_;refine wc_block ?_;refine sR ?_;refine rC ?_;refine rQ (index_arr tab_ok rfl rfl rfl rfl rfl (by omega) hgx) ?_
    refine rQ iL ?_;iterate 2 refine rC ?_
    refine nR ?_;refine rC ?_;refine rQ (add_str (a := [99, 108, 105, 101, 110, 116, 10, 114, 101, 97, 100, 32]) (b := x) rfl rfl hx1 rfl) ?_;refine rQ (add_str (a := [99, 108, 105, 101, 110, 116, 10, 114, 101, 97, 100, 32] ++ x) (b := [10]) rfl rfl hx2 rfl) ?_
    refine rQ (call_r hpx rfl rfl (arg_e arg_nil) (.inl rfl) (fun _ => rfl)) ?_;iterate 7 refine rC ?_
    refine nR ?_;iterate 3 refine rC ?_
    iterate 3 refine rT ?_
    iterate 2 refine rU ?_
    iterate 2 refine rT ?_
    iterate 3 refine rU ?_
    refine rT ?_;refine rQ iG ?_;refine rC ?_;refine rP ?_;refine rC ?_;refine rP ?_;refine rC ?_;refine rP ?_;refine rC ?_;refine rP ?_;refine rC ?_;refine rP ?_;refine rC ?_
    refine rP ?_;refine rC ?_;refine rP ?_;refine rC ?_;refine rP ?_;refine rC ?_;refine rP ?_;refine rQ iG ?_;refine rP ?_;refine rQ iU ?_;refine rQ iG ?_;refine nS ?_
    refine wG ?_;refine wc_skip ?_;refine blk_n ?_;refine seq_n ?_;refine wc_region ?_;refine rQ iD ?_;refine rC ?_;refine reg_nil ?_
    exact loop_n 4 [] (by decide) (by decide) (.of rfl rfl rfl rfl rfl ⟨⟨_, rfl, .refl _⟩, rfl, ⟨_, rfl, .refl _⟩, rfl, ⟨_, rfl, .refl _⟩, rfl, trivial⟩ trivial)
  | 4, _ =>
    obtain ⟨x, hx⟩ : ∃ x, numX.getD 4 [] = x := ⟨_, rfl⟩
    have hgx : numX[(((4 : Nat) : Int)).toNat]? = some x := by rw [← hx]; rfl
    have hxl : x.length ≤ 20 := by rw [← hx]; decide
    have hx1 : [(99 : UInt8), 108, 105, 101, 110, 116, 10, 114, 101, 97, 100, 32].length + x.length ≤ 9223372036854775807 := by simp only [List.length_cons, List.length_nil]; omega
    have hx2 : ([(99 : UInt8), 108, 105, 101, 110, 116, 10, 114, 101, 97, 100, 32] ++ x).length + [(10 : UInt8)].length ≤ 9223372036854775807 := by simp only [List.length_append, List.length_cons, List.length_nil]; omega
    have hpx := parse_to (by decide) num_4
    rw [hx] at hpx
    clear hx
    refine wc_of ?_;refine sR ?_;refine rC ?_;refine nQ ?_;refine wV ?_;refine kS ?_;refine wc_seq ?_;refine wc_block ?_;refine sR ?_;refine rC ?_;refine rQ (index_arr tab_ok rfl rfl rfl rfl rfl (by omega) hgx) ?_
    refine rQ iL ?_;iterate 2 refine rC ?_
    refine nR ?_;refine rC ?_;refine rQ (add_str (a := [99, 108, 105, 101, 110, 116, 10, 114, 101, 97, 100, 32]) (b := x) rfl rfl hx1 rfl) ?_;refine rQ (add_str (a := [99, 108, 105, 101, 110, 116, 10, 114, 101, 97, 100, 32] ++ x) (b := [10]) rfl rfl hx2 rfl) ?_
    refine rQ (call_r hpx rfl rfl (arg_e arg_nil) (.inl rfl) (fun _ => rfl)) ?_;iterate 7 refine rC ?_
    refine nR ?_;iterate 3 refine rC ?_
    iterate 3 refine rT ?_
    iterate 2 refine rU ?_
    iterate 2 refine rT ?_
    iterate 3 refine rU ?_
    refine rT ?_;refine rQ iG ?_;refine rC ?_;refine rP ?_;refine rC ?_;refine rP ?_;refine rC ?_;refine rP ?_;refine rC ?_;refine rP ?_;refine rC ?_;refine rP ?_;refine rC ?_
    refine rP ?_;refine rC ?_;refine rP ?_;refine rC ?_;refine rP ?_;refine rC ?_;refine rP ?_;refine rQ iG ?_;refine rP ?_;refine rQ iU ?_;refine rQ iG ?_;refine nS ?_
    refine wG ?_;refine wc_skip ?_;refine blk_n ?_;refine seq_n ?_;refine wc_region ?_;refine rQ iD ?_;refine rC ?_;refine reg_nil ?_
    exact loop_n 5 [] (by decide) (by decide) (.of rfl rfl rfl rfl rfl ⟨⟨_, rfl, .refl _⟩, rfl, ⟨_, rfl, .refl _⟩, rfl, ⟨_, rfl, .refl _⟩, rfl, trivial⟩ trivial)
  | 5, _ =>
    obtain ⟨x, hx⟩ : ∃ x, numX.getD 5 [] = x := ⟨_, rfl⟩
    have hgx : numX[(((5 : Nat) : Int)).toNat]? = some x := by rw [← hx]; rfl
    have hxl : x.length ≤ 20 := by rw [← hx]; decide
    have hx1 : [(99 : UInt8), 108, 105, 101, 110, 116, 10, 114, 101, 97, 100, 32].length + x.length ≤ 9223372036854775807 := by simp only [List.length_cons, List.length_nil]; omega
    have hx2 : ([(99 : UInt8), 108, 105, 101, 110, 116, 10, 114, 101, 97, 100, 32] ++ x).length + [(10 : UInt8)].length ≤ 9223372036854775807 := by simp only [List.length_append, List.length_cons, List.length_nil]; omega
    have hpx := parse_to (by decide) num_5
    rw [hx] at hpx
    clear hx
    refine wc_of ?_;refine sR ?_;refine rC ?_;refine nQ ?_;refine wV ?_;refine kS ?_;refine wc_seq ?_;refine wc_block ?_;refine sR ?_;refine rC ?_;refine rQ (index_arr tab_ok rfl rfl rfl rfl rfl (by omega) hgx) ?_
    refine rQ iL ?_;iterate 2 refine rC ?_
    refine nR ?_;refine rC ?_;refine rQ (add_str (a := [99, 108, 105, 101, 110, 116, 10, 114, 101, 97, 100, 32]) (b := x) rfl rfl hx1 rfl) ?_;refine rQ (add_str (a := [99, 108, 105, 101, 110, 116, 10, 114, 101, 97, 100, 32] ++ x) (b := [10]) rfl rfl hx2 rfl) ?_
    refine rQ (call_r hpx rfl rfl (arg_e arg_nil) (.inl rfl) (fun _ => rfl)) ?_;iterate 7 refine rC ?_
    refine nR ?_;iterate 3 refine rC ?_
    iterate 3 refine rT ?_
    iterate 2 refine rU ?_
    iterate 2 refine rT ?_
    iterate 3 refine rU ?_
    refine rT ?_;refine rQ iG ?_;refine rC ?_;refine rP ?_;refine rC ?_;refine rP ?_;refine rC ?_;refine rP ?_;refine rC ?_;refine rP ?_;refine rC ?_;refine rP ?_;refine rC ?_
    refine rP ?_;refine rC ?_;refine rP ?_;refine rC ?_;refine rP ?_;refine rC ?_;refine rP ?_;refine rQ iG ?_;refine rP ?_;refine rQ iU ?_;refine rQ iG ?_;refine nS ?_
    refine wG ?_;refine wc_skip ?_;refine blk_n ?_;refine seq_n ?_;refine wc_region ?_;refine rQ iD ?_;refine rC ?_;refine reg_nil ?_
    exact loop_n 6 [] (by decide) (by decide) (.of rfl rfl rfl rfl rfl ⟨⟨_, rfl, .refl _⟩, rfl, ⟨_, rfl, .refl _⟩, rfl, ⟨_, rfl, .refl _⟩, rfl, trivial⟩ trivial)
  | 6, _ =>
    obtain ⟨x, hx⟩ : ∃ x, numX.getD 6 [] = x := ⟨_, rfl⟩
    have hgx : numX[(((6 : Nat) : Int)).toNat]? = some x := by rw [← hx]; rfl
    have hxl : x.length ≤ 20 := by rw [← hx]; decide
    have hx1 : [(99 : UInt8), 108, 105, 101, 110, 116, 10, 114, 101, 97, 100, 32].length + x.length ≤ 9223372036854775807 := by simp only [List.length_cons, List.length_nil]; omega
    have hx2 : ([(99 : UInt8), 108, 105, 101, 110, 116, 10, 114, 101, 97, 100, 32] ++ x).length + [(10 : UInt8)].length ≤ 9223372036854775807 := by simp only [List.length_append, List.length_cons, List.length_nil]; omega
    have hpx := parse_to (by decide) num_6
    rw [hx] at hpx
    clear hx
    refine wc_of ?_;refine sR ?_;refine rC ?_;refine nQ ?_;refine wV ?_;refine kS ?_;refine wc_seq ?_;refine wc_block ?_;refine sR ?_;refine rC ?_;refine rQ (index_arr tab_ok rfl rfl rfl rfl rfl (by omega) hgx) ?_
    refine rQ iL ?_;iterate 2 refine rC ?_
    refine nR ?_;refine rC ?_;refine rQ (add_str (a := [99, 108, 105, 101, 110, 116, 10, 114, 101, 97, 100, 32]) (b := x) rfl rfl hx1 rfl) ?_;refine rQ (add_str (a := [99, 108, 105, 101, 110, 116, 10, 114, 101, 97, 100, 32] ++ x) (b := [10]) rfl rfl hx2 rfl) ?_
    refine rQ (call_r hpx rfl rfl (arg_e arg_nil) (.inl rfl) (fun _ => rfl)) ?_;iterate 7 refine rC ?_
    refine nR ?_;iterate 3 refine rC ?_
    iterate 3 refine rT ?_
    iterate 2 refine rU ?_
    iterate 2 refine rT ?_
    iterate 3 refine rU ?_
    refine rT ?_;refine rQ iG ?_;refine rC ?_;refine rP ?_;refine rC ?_;refine rP ?_;refine rC ?_;refine rP ?_;refine rC ?_;refine rP ?_;refine rC ?_;refine rP ?_;refine rC ?_
    refine rP ?_;refine rC ?_;refine rP ?_;refine rC ?_;refine rP ?_;refine rC ?_;refine rP ?_;refine rQ iG ?_;refine rP ?_;refine rQ iU ?_;refine rQ iG ?_;refine nS ?_
    refine wG ?_;refine wc_skip ?_;refine blk_n ?_;refine seq_n ?_;refine wc_region ?_;refine rQ iD ?_;refine rC ?_;refine reg_nil ?_
    exact loop_n 7 [] (by decide) (by decide) (.of rfl rfl rfl rfl rfl ⟨⟨_, rfl, .refl _⟩, rfl, ⟨_, rfl, .refl _⟩, rfl, ⟨_, rfl, .refl _⟩, rfl, trivial⟩ trivial)
  | 7, _ =>
    obtain ⟨x, hx⟩ : ∃ x, numX.getD 7 [] = x := ⟨_, rfl⟩
    have hgx : numX[(((7 : Nat) : Int)).toNat]? = some x := by rw [← hx]; rfl
    have hxl : x.length ≤ 20 := by rw [← hx]; decide
    have hx1 : [(99 : UInt8), 108, 105, 101, 110, 116, 10, 114, 101, 97, 100, 32].length + x.length ≤ 9223372036854775807 := by simp only [List.length_cons, List.length_nil]; omega
    have hx2 : ([(99 : UInt8), 108, 105, 101, 110, 116, 10, 114, 101, 97, 100, 32] ++ x).length + [(10 : UInt8)].length ≤ 9223372036854775807 := by simp only [List.length_append, List.length_cons, List.length_nil]; omega
    have hpx := parse_to (by decide) num_7
    rw [hx] at hpx
    clear hx
    refine wc_of ?_;refine sR ?_;refine rC ?_;refine nQ ?_;refine wV ?_;refine kS ?_;refine wc_seq ?_;refine wc_block ?_;refine sR ?_;refine rC ?_;refine rQ (index_arr tab_ok rfl rfl rfl rfl rfl (by omega) hgx) ?_
    refine rQ iL ?_;iterate 2 refine rC ?_
    refine nR ?_;refine rC ?_;refine rQ (add_str (a := [99, 108, 105, 101, 110, 116, 10, 114, 101, 97, 100, 32]) (b := x) rfl rfl hx1 rfl) ?_;refine rQ (add_str (a := [99, 108, 105, 101, 110, 116, 10, 114, 101, 97, 100, 32] ++ x) (b := [10]) rfl rfl hx2 rfl) ?_
    refine rQ (call_r hpx rfl rfl (arg_e arg_nil) (.inl rfl) (fun _ => rfl)) ?_;iterate 7 refine rC ?_
    refine nR ?_;iterate 3 refine rC ?_
    iterate 3 refine rT ?_
    iterate 2 refine rU ?_
    iterate 2 refine rT ?_
    iterate 3 refine rU ?_
    refine rT ?_;refine rQ iG ?_;refine rC ?_;refine rP ?_;refine rC ?_;refine rP ?_;refine rC ?_;refine rP ?_;refine rC ?_;refine rP ?_;refine rC ?_;refine rP ?_;refine rC ?_
    refine rP ?_;refine rC ?_;refine rP ?_;refine rC ?_;refine rP ?_;refine rC ?_;refine rP ?_;refine rQ iG ?_;refine rP ?_;refine rQ iU ?_;refine rQ iG ?_;refine nS ?_
    refine wG ?_;refine wc_skip ?_;refine blk_n ?_;refine seq_n ?_;refine wc_region ?_;refine rQ iD ?_;refine rC ?_;refine reg_nil ?_
    exact loop_n 8 [] (by decide) (by decide) (.of rfl rfl rfl rfl rfl ⟨⟨_, rfl, .refl _⟩, rfl, ⟨_, rfl, .refl _⟩, rfl, ⟨_, rfl, .refl _⟩, rfl, trivial⟩ trivial)
  | 8, _ =>
    refine wc_of ?_;refine sR ?_;refine rC ?_;refine nQ ?_;refine wG ?_;refine wc_exit ?_;refine seq_x ?_;refine loop_x ?_;refine blk_x ?_;refine seq_n ?_;refine qR ?_
    refine rC ?_;refine nS ?_;refine wc_block ?_
    refine wc_inv (fun i : Nat => ⟨[(23, .int .i64 i)], [], 72, Tryz.f15.ntmps, 64⟩) (fun i => i ≤ 200) (fun i => 200 - i) 0 [] (Nat.zero_le _)
      (.of rfl rfl rfl rfl rfl ⟨⟨_, rfl, .refl _⟩, rfl, trivial⟩ trivial) ?_
    intro i hi
    by_cases hlt : i < 200
    · have h5 : decide ((i : Int) < 200) = true := decide_eq_true (by omega)
      refine wc_of ?_;refine qR ?_;iterate 2 refine rC ?_
      refine nS ?_;refine wT ?_;refine kS ?_;refine wc_seq ?_;refine wc_block ?_;refine sR ?_;refine rC ?_;refine rQ (conv_int (m := ((UInt8.ofNat (i)).toNat : Int)) tab_ok rfl rfl rfl (u8_wrap (i))) ?_
      refine rC ?_;refine rQ (mul_int (m := ((i * 7 : Nat) : Int)) tab_ok rfl rfl (i5_mul i 7 (by omega))) ?_;refine rQ (conv_int (m := ((UInt8.ofNat (i * 7)).toNat : Int)) tab_ok rfl rfl rfl (u8_wrap (i * 7))) ?_
      refine rC ?_;refine rQ (mul_int (m := ((i * 3 : Nat) : Int)) tab_ok rfl rfl (i5_mul i 3 (by omega))) ?_;refine rQ (conv_int (m := ((UInt8.ofNat (i * 3)).toNat : Int)) tab_ok rfl rfl rfl (u8_wrap (i * 3))) ?_
      refine rQ iS ?_;refine rC ?_;refine rQ (mul_int (m := ((i * 5 : Nat) : Int)) tab_ok rfl rfl (i5_mul i 5 (by omega))) ?_;refine rQ (conv_int (m := ((UInt8.ofNat (i * 5)).toNat : Int)) tab_ok rfl rfl rfl (u8_wrap (i * 5))) ?_
      refine rC ?_;refine rQ (conv_int (m := ((UInt8.ofNat (i)).toNat : Int)) tab_ok rfl rfl rfl (u8_wrap (i))) ?_;refine rQ iS ?_;refine rQ (StepIs.frozen (build_slice (s := 3) tab_ok rfl rfl rfl rfl rfl rfl rfl rfl) (Frz.lits2 (enc := encQ) ⟨UInt8.ofNat i, UInt8.ofNat (i * 7), UInt8.ofNat (i * 3)⟩ ⟨UInt8.ofNat (i * 5), UInt8.ofNat i, 9⟩ rfl rfl rfl rfl)) ?_
      refine rC ?_;refine rQ (mul_int (m := ((i * 11 : Nat) : Int)) tab_ok rfl rfl (i5_mul i 11 (by omega))) ?_;refine rQ (conv_int (m := ((UInt8.ofNat (i * 11)).toNat : Int)) tab_ok rfl rfl rfl (u8_wrap (i * 11))) ?_
      refine rC ?_;refine rQ (conv_int (m := ((UInt8.ofNat (i)).toNat : Int)) tab_ok rfl rfl rfl (u8_wrap (i))) ?_;refine rQ iS ?_;refine rQ (StepIs.frozen (build_slice (s := 3) tab_ok rfl rfl rfl rfl rfl rfl rfl rfl) (Frz.lits1 (enc := encQ) ⟨UInt8.ofNat (i * 11), 250, UInt8.ofNat i⟩ rfl rfl)) ?_
      refine rQ (StepIs.frozen (build_slice (s := 1) tab_ok rfl rfl rfl rfl rfl rfl rfl rfl) (Frz.litsN (enc := encQN) (kx i) rfl (fun o _ => by cases o <;> rfl))) ?_
      refine rQ iS ?_;refine rN ?_;refine rW ?_;refine nR ?_;refine rQ iM ?_;refine rQ (call_r (law_text (kp i)) rfl rfl (arg_d rfl trivial (qn_dle (kx i)) arg_nil) (.inl rfl) (fun _ => rfl)) ?_
      iterate 2 refine rC ?_
      refine rP ?_;refine rQ iM ?_;refine rP ?_;refine rQ (call_r (pof_is (kp i)) rfl rfl (arg_d rfl trivial (qn_dle (kx i)) arg_nil) (.inl rfl) (fun _ => rfl)) ?_;refine rP ?_
      refine rC ?_;refine rP ?_;refine rQ (sub_int tab_ok rfl rfl (wrap_i64 (by omega) (by omega))) ?_;refine rP ?_;refine rQ (call_r (law_check (pOf (kp i)) (pof_okl (kp i)) ((i : Int) - 3) (by omega) (by omega)) rfl rfl (arg_e (arg_e arg_nil)) (.inl rfl) (fun _ => rfl)) ?_
      refine rP ?_;refine rC ?_;refine rQ iG ?_;refine rC ?_;refine rP ?_;refine rC ?_;refine rP ?_;refine rQ (conv_int (m := ((UInt8.ofNat (i)).toNat : Int)) tab_ok rfl rfl rfl (u8_wrap (i))) ?_
      refine rP ?_;refine rC ?_;refine rP ?_;refine rQ (mul_int (m := ((i * 3 : Nat) : Int)) tab_ok rfl rfl (i5_mul i 3 (by omega))) ?_;refine rP ?_;refine rQ (conv_int (m := ((UInt8.ofNat (i * 3)).toNat : Int)) tab_ok rfl rfl rfl (u8_wrap (i * 3))) ?_
      refine rP ?_;refine rC ?_;refine rP ?_;refine rQ (mul_int (m := ((i * 5 : Nat) : Int)) tab_ok rfl rfl (i5_mul i 5 (by omega))) ?_;refine rP ?_;refine rQ (conv_int (m := ((UInt8.ofNat (i * 5)).toNat : Int)) tab_ok rfl rfl rfl (u8_wrap (i * 5))) ?_
      refine rP ?_;refine rQ (StepIs.frozen (build_slice (s := 1) tab_ok rfl rfl rfl rfl rfl rfl rfl rfl) (Frz.litsN (enc := encU8) (byI (kl i)) rfl (fun _ _ => rfl))) ?_
      refine rP ?_;refine rC ?_;refine rP ?_;refine rQ (mul_int (m := ((i * 1000003 : Nat) : Int)) tab_ok rfl rfl (i5_mul i 1000003 (by omega))) ?_;refine rP ?_;refine rQ (call_r (law_lines (kl i) ((i * 1000003 : Nat) : Int) (by omega) (by omega)) rfl rfl (arg_e (arg_e arg_nil)) (.inl rfl) (fun _ => rfl)) ?_
      refine rP ?_;refine rC ?_;refine rQ iG ?_;refine nS ?_;refine wG ?_;refine wc_skip ?_;refine blk_n ?_;refine seq_n ?_;refine wc_region ?_;refine rC ?_;refine rQ iD ?_
      refine rC ?_;refine reg_nil ?_
      exact loop_n (i + 1) [] hlt (by omega) (.of rfl rfl rfl rfl rfl ⟨⟨_, rfl, .refl _⟩, rfl, trivial⟩ trivial)
    · have h5 : decide ((i : Int) < 200) = false := decide_eq_false (by omega)
      refine wc_of ?_;refine qR ?_;iterate 2 refine rC ?_
      refine nS ?_;refine wF ?_;refine wc_exit ?_;refine seq_x ?_;refine loop_x ?_;refine blk_x ?_;refine seq_n ?_;refine sR ?_;refine rQ (call_r lives_is rfl rfl arg_nil (.inl rfl) (fun _ => rfl)) ?_
      refine rC ?_;refine nS ?_;refine wc_ret ?_
      exact ⟨trivial, [], lf⟩
  | (n + 9), h => exact absurd h (by omega)
end Go.Proofs.YtmojbghcngdkpaaGreatDoor
