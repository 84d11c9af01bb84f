/- Texts of the proof: Z5, Z6a, Z6, Eng88, Eng87, Eng89, Z7, Z8a, Z8b, Z8, Z9, Z10, Z11, Z12, Z13, Eng93, Z14, Z15, PV0, Eng85, Z16, Eng94, PZ, Z24, ZR, Z25, Z26, Z27, Z28, Z29, Z30, Z17, Z18, Z19. -/
import Derived.Test.YthiijfbcfoifnaaGreatDoorG04
import Derived.Test.YthiijfbcfoifnaaGreatDoorG02
import Derived.Test.YthiijfbcfoifnaaGreatDoorG03
import Derived.Lib.AppendIntMem
import Derived.Maps.RangeRun
import Derived.Lib.ConvBytes
import Derived.Lib.ParseIntBMem
import Derived.Lib.Hide
import Derived.Laws.Strings3
import Derived.Laws.Closers25
import Derived.Laws.Closers25b
import Derived.BigCall
import Derived.BigGuard

set_option linter.unusedVariables false
set_option linter.unusedSimpArgs false
set_option linter.unusedSectionVars false

namespace Go.Proofs.YthiijfbcfoifnaaGreatDoor
open Go.Eng Go.Plain
set_option maxHeartbeats 4000000
set_option maxRecDepth 20000
attribute [local irreducible] WC RegS RegD SeqQ BlkQ ScoQ RegK CutK Sat SatN FnIs LoopQ StepIs OpIs
theorem digits_nil : FnIs Tryz.prog 35 [.d (encB [])] [] (.d (strD (hexP []))) [] := by
 refine fnIs_of tab_ok Tryz.func35 rfl rfl rfl ?_;refine sR ?_;refine rC ?_;refine nQ ?_;refine sR ?_;refine rC ?_;refine rQ iE ?_;refine rC ?_;refine nS ?_;refine wV ?_
 refine sR ?_;refine rC ?_;refine nS ?_;refine wc_ret ?_;refine seq_r ?_
 exact ⟨trivial, [], lf⟩
theorem digits_some (l : List UInt8) (hne : l ≠ []) (hL : l.length ≤ 524280) : FnIs Tryz.prog 35 [.d (encB l)] [] (.d (strD (hexP l))) [] := by
 have hpos : 0 < l.length := List.length_pos_iff.2 hne
 have hbl : (byI l).length = l.length := byI_len l
 have hz : decide (((byI l).length : Int) = 0) = false := dF (by omega)
 have hm2 : IntKind.i64.wrap (2 * ((byI l).length : Int)) = ((2 * l.length : Nat) : Int) := by rw [hbl, wrap_i64 (by omega) (by omega)]; omega
 have hN : 2 * l.length ≤ 2097152 := by omega
 refine fnIs_of tab_ok Tryz.func35 rfl rfl rfl ?_;refine sR ?_;refine rC ?_;refine nQ ?_;refine sR ?_;refine rC ?_;refine rQ iE ?_;refine rC ?_;refine nS ?_;refine wF ?_
 refine kS ?_;refine sR ?_;refine rC ?_;refine rQ iE ?_;refine rQ (mul_int (m := ((2 * l.length : Nat) : Int)) tab_ok rfl rfl hm2) ?_;refine reg_new (make_room (N := 2 * l.length) (z := (0 : Int)) (enc := encU8) (s := 1) tab_ok rfl rfl rfl rfl rfl rfl rfl hN rfl) rfl ?_
 refine rC ?_;refine nQ ?_;refine sR ?_;refine rC ?_;refine rQ iE ?_;refine rC ?_;refine nS ?_;refine wc_block ?_
 refine wc_inv (fun i : Nat => ⟨[(15, .int .i64 i), (14, .int .i64 (byI l).length), (13, .d (encB l)), (3, .own 65 0 (2 * i) 1 none)], [(65, some (rowT ((l.take i).flatMap hexB)))], 72, Tryz.f35.ntmps, 64⟩) (fun i => i ≤ l.length) (fun i => l.length - i) 0 [(65, some _)] (Nat.zero_le _)
  (.of rfl rfl rfl rfl rfl ⟨⟨_, rfl, .refl _⟩, rfl, ⟨_, rfl, .refl _⟩, rfl, ⟨_, rfl, .refl _⟩, rfl, ⟨_, rfl, .refl _⟩, rfl, trivial⟩ ⟨⟨rfl, rfl, _, rfl, .refl _⟩, trivial⟩) ?_
 intro i hi
 refine wc_of ?_;refine sR ?_;refine rC ?_;refine nQ ?_
 by_cases hlt : i < l.length
 ·have d1 : decide ((i : Int) < ((byI l).length : Int)) = true := dT (by omega)
  obtain ⟨b, hb⟩ : ∃ b, l[i]? = some b := ⟨_, List.getElem?_eq_getElem hlt⟩
  have hb' : (byI l)[((i : Int)).toNat]? = some (b.toNat : Int) := by rw [Int.toNat_natCast]; exact byI_get hb
  have hb8 : b.toNat < 256 := b.toNat_lt
  have hd1 := hexD_get (n := b.toNat / 16) (by omega)
  have hd2 := hexD_get (n := b.toNat % 16) (by omega)
  have hpl : 2 * i = (byI ((l.take i).flatMap hexB)).length := by rw [byI_len, hexB_len, List.length_take, Nat.min_eq_left hi]
  have hlen : (byI ((l.take i).flatMap hexB)).length + [((hexC (b.toNat / 16)).toNat : Int), ((hexC (b.toNat % 16)).toNat : Int)].length ≤ 1048576 := by rw [← hpl]; simp; omega
  have hgo := hex_take hb
  have hnx : (byI ((l.take i).flatMap hexB)).length + [((hexC (b.toNat / 16)).toNat : Int), ((hexC (b.toNat % 16)).toNat : Int)].length = 2 * (i + 1) := by rw [← hpl]; simp; omega
  have hby : byI ((l.take i).flatMap hexB) ++ [((hexC (b.toNat / 16)).toNat : Int), ((hexC (b.toNat % 16)).toNat : Int)] = byI ((l.take (i + 1)).flatMap hexB) := by rw [← hgo]; simp [byI]
  refine wT ?_;refine kS ?_;refine wc_seq ?_;refine wc_block ?_;refine sR ?_;refine rQ iA ?_;refine rQ iL ?_;refine rC ?_;refine nS ?_;refine wc_draw (by kernel_rfl) ?_
  refine dC [3] [] ?_;refine dC [5] [] ?_;refine dQ [20] [] (shr_nat (a := b.toNat) (s := 4) (m := b.toNat / 16) rfl rfl (by decide) rfl) ?_;refine dQ [21] [] (index_s (l := hexD) (m := b.toNat / 16) tab_ok rfl rfl rfl hd1) ?_
  refine dC [5] [] ?_;refine dQ [23] [] (and_15 (c := b.toNat) tab_ok rfl rfl hb8) ?_;refine dQ [24] [] (index_s (l := hexD) (m := b.toNat % 16) tab_ok rfl rfl rfl hd2) ?_
  refine dreg_w [22, 25] [] rfl (build_slice (s := 1) tab_ok rfl rfl rfl rfl rfl rfl rfl rfl) ?_;refine dreg_w2 [19, 26] [65, 160] rfl (append_litsL (α := Int) (s := 1) (enc := encU8) (xs := byI ((l.take i).flatMap hexB)) tab_ok [((hexC (b.toNat / 16)).toNat : Int), ((hexC (b.toNat % 16)).toNat : Int)] rfl rfl rfl rfl rfl hpl rfl rfl rfl rfl (fun _ _ => rfl) (by decide) hlen rfl) ?_
  refine dC [27] [] ?_;refine dreg_end (by kernel_rfl) ?_;refine blk_n ?_;refine seq_n ?_;refine wc_region ?_;refine rQ iD ?_;refine rC ?_;refine reg_nil ?_
  exact loop_n (i + 1) [(65, some _)] hlt (by omega) (.of rfl rfl rfl rfl rfl ⟨⟨_, rfl, .refl _⟩, rfl, ⟨_, rfl, .refl _⟩, rfl, ⟨_, rfl, .refl _⟩, rfl, ⟨_, rfl, AVLe.of_eq (by rw [hnx]; rfl)⟩, rfl, trivial⟩ ⟨⟨rfl, rfl, _, rfl, RowLe.of_eq (by rw [hby]; rfl)⟩, trivial⟩)
 ·have he : i = l.length := by omega
  subst he
  have d1 : decide ((l.length : Int) < ((byI l).length : Int)) = false := dF (by omega)
  have hpl2 : 2 * l.length = (byI (l.flatMap hexB)).length := by rw [byI_len, hexB_len]
  have hpp : 0 < (byI (l.flatMap hexB)).length := by omega
  rw [List.take_length]
  refine wF ?_;refine wc_exit ?_;refine seq_x ?_;refine loop_x ?_;refine blk_x ?_;refine seq_n ?_;refine sR ?_;refine rC ?_;refine rQ (conv_own tab_ok rfl rfl rfl rfl rfl hpl2 hpp) ?_
  refine rC ?_;refine nS ?_;refine wc_ret ?_
  exact ⟨trivial, [], .of rfl rfl rfl rfl rfl ⟨⟨_, rfl, AVLe.of_eq (by rw [show hexP l = l.flatMap hexB from if_neg hne, strOf_byI]; rfl)⟩, rfl, trivial⟩ trivial⟩
theorem digits_is (l : List UInt8) (hL : l.length ≤ 524280) : FnIs Tryz.prog 35 [.d (encB l)] [] (.d (strD (hexP l))) [] := by
 by_cases h : l = []
 ·subst h; exact digits_nil
 ·exact digits_some l h hL
theorem actline_1 (a : SAct) (hok : a.Ok) (hL : a.bytes.length ≤ 524280) (hk : a.kind = 1) : FnIs Tryz.prog 36 [.d (encAct a)] [] (.d (strD (lineA a))) [] := by
 have d1 : decide (a.kind = 1) = true := dT (by omega)
 obtain ⟨_, ⟨t0, t1⟩, ⟨s0, s1⟩, ⟨b0, b1⟩⟩ := hok
 have l1 := itoa_len t0 t1
 have l2 := itoa_len s0 s1
 have l3 := itoa_len b0 b1
 have l4 := hexP_len a.bytes
 rw [show lineA a = sPick ++ [32] ++ Lib.itoa a.thread by rw [lineA, if_pos hk]; simp]
 refine fnIs_of tab_ok Tryz.func36 rfl rfl rfl ?_;refine sR ?_;refine rN ?_;refine rC ?_;refine nR ?_;refine rC ?_;refine nQ ?_;refine sR ?_;refine rC ?_;refine rQ iB ?_
 refine nS ?_;refine wc_block ?_;refine sR ?_;iterate 2 refine rC ?_
 refine nS ?_;refine wT ?_;refine sR ?_;iterate 2 refine rC ?_
 refine rQ iB ?_;refine rQ (call_r (itoa_is t0 t1) rfl rfl (arg_e arg_nil) (.inl rfl) (fun _ => rfl)) ?_
 refine rQ (add_str (a := sPick ++ [32]) (b := Lib.itoa a.thread) rfl rfl (by simp [sPick]; omega) rfl) ?_
 refine rC ?_;refine nS ?_;refine wc_ret ?_;refine blk_r ?_;refine seq_r ?_
 exact ⟨trivial, [], lf⟩
theorem actline_2 (a : SAct) (hok : a.Ok) (hL : a.bytes.length ≤ 524280) (hk : a.kind = 2) : FnIs Tryz.prog 36 [.d (encAct a)] [] (.d (strD (lineA a))) [] := by
 have d1 : decide (a.kind = 1) = false := dF (by omega)
 have d2 : decide (a.kind = 2) = true := dT (by omega)
 obtain ⟨_, ⟨t0, t1⟩, ⟨s0, s1⟩, ⟨b0, b1⟩⟩ := hok
 have l1 := itoa_len t0 t1
 have l2 := itoa_len s0 s1
 have l3 := itoa_len b0 b1
 have l4 := hexP_len a.bytes
 rw [show lineA a = sEdit ++ [32] ++ Lib.itoa a.sector ++ [32] ++ hexP a.bytes by rw [lineA, if_neg (show ¬ a.kind = 1 by omega), if_pos hk]; simp]
 refine fnIs_of tab_ok Tryz.func36 rfl rfl rfl ?_;refine sR ?_;refine rN ?_;refine rC ?_;refine nR ?_;refine rC ?_;refine nQ ?_;refine sR ?_;refine rC ?_;refine rQ iB ?_
 refine nS ?_;refine wc_block ?_;refine sR ?_;iterate 2 refine rC ?_
 refine nS ?_;refine wF ?_;refine sR ?_;iterate 2 refine rC ?_
 refine nS ?_;refine wT ?_;refine wc_seq ?_;refine wc_draw (by kernel_rfl) ?_;refine dC [3] [] ?_;refine dC [1] [] ?_;refine dQ [16] [64] iB ?_;refine dQ [15, 17] [] (call_r (itoa_is s0 s1) rfl rfl (arg_e arg_nil) (.inl rfl) (fun _ => rfl)) ?_
 refine dQ [18] [] (add_str (a := sEdit ++ [32]) (b := Lib.itoa a.sector) rfl rfl (by simp [sEdit]; omega) rfl) ?_
 refine dQ [19] [] (add_str (a := sEdit ++ [32] ++ Lib.itoa a.sector) (b := [32]) rfl rfl (by simp [sEdit]; omega) rfl) ?_
 refine dC [1] [] ?_;refine dQ [21] [64] iB ?_;refine dQ [22] [] (call_r (digits_is a.bytes hL) rfl rfl (arg_e arg_nil) (.inl rfl) (fun _ => rfl)) ?_
 refine dQ [20, 23] [] (add_str (a := sEdit ++ [32] ++ Lib.itoa a.sector ++ [32]) (b := hexP a.bytes) rfl rfl (by simp [sEdit]; omega) rfl) ?_
 refine dC [24] [] ?_;refine dreg_end (by kernel_rfl) ?_;refine seq_n ?_;refine wc_ret ?_;refine blk_r ?_;refine seq_r ?_
 exact ⟨trivial, [], lf⟩
theorem actline_3 (a : SAct) (hok : a.Ok) (hL : a.bytes.length ≤ 524280) (hk : a.kind = 3) : FnIs Tryz.prog 36 [.d (encAct a)] [] (.d (strD (lineA a))) [] := by
 have d1 : decide (a.kind = 1) = false := dF (by omega)
 have d2 : decide (a.kind = 2) = false := dF (by omega)
 have d3 : decide (a.kind = 3) = true := dT (by omega)
 obtain ⟨_, ⟨t0, t1⟩, ⟨s0, s1⟩, ⟨b0, b1⟩⟩ := hok
 have l1 := itoa_len t0 t1
 have l2 := itoa_len s0 s1
 have l3 := itoa_len b0 b1
 have l4 := hexP_len a.bytes
 rw [show lineA a = sErase ++ [32] ++ Lib.itoa a.sector by rw [lineA, if_neg (show ¬ a.kind = 1 by omega), if_neg (show ¬ a.kind = 2 by omega), if_pos hk]; simp]
 refine fnIs_of tab_ok Tryz.func36 rfl rfl rfl ?_;refine sR ?_;refine rN ?_;refine rC ?_;refine nR ?_;refine rC ?_;refine nQ ?_;refine sR ?_;refine rC ?_;refine rQ iB ?_
 refine nS ?_;refine wc_block ?_;refine sR ?_;iterate 2 refine rC ?_
 refine nS ?_;refine wF ?_;refine sR ?_;iterate 2 refine rC ?_
 refine nS ?_;refine wF ?_;refine sR ?_;iterate 2 refine rC ?_
 refine nS ?_;refine wT ?_;refine sR ?_;iterate 2 refine rC ?_
 refine rQ iB ?_;refine rQ (call_r (itoa_is s0 s1) rfl rfl (arg_e arg_nil) (.inl rfl) (fun _ => rfl)) ?_
 refine rQ (add_str (a := sErase ++ [32]) (b := Lib.itoa a.sector) rfl rfl (by simp [sErase]; omega) rfl) ?_
 refine rC ?_;refine nS ?_;refine wc_ret ?_;refine blk_r ?_;refine seq_r ?_
 exact ⟨trivial, [], lf⟩
theorem actline_4 (a : SAct) (hok : a.Ok) (hL : a.bytes.length ≤ 524280) (hk : a.kind = 4) : FnIs Tryz.prog 36 [.d (encAct a)] [] (.d (strD (lineA a))) [] := by
 have d1 : decide (a.kind = 1) = false := dF (by omega)
 have d2 : decide (a.kind = 2) = false := dF (by omega)
 have d3 : decide (a.kind = 3) = false := dF (by omega)
 have d4 : decide (a.kind = 4) = true := dT (by omega)
 obtain ⟨_, ⟨t0, t1⟩, ⟨s0, s1⟩, ⟨b0, b1⟩⟩ := hok
 have l1 := itoa_len t0 t1
 have l2 := itoa_len s0 s1
 have l3 := itoa_len b0 b1
 have l4 := hexP_len a.bytes
 rw [show lineA a = sReplay ++ [32] ++ Lib.itoa a.sector ++ [32] ++ Lib.itoa a.back by rw [lineA, if_neg (show ¬ a.kind = 1 by omega), if_neg (show ¬ a.kind = 2 by omega), if_neg (show ¬ a.kind = 3 by omega), if_pos hk]; simp]
 refine fnIs_of tab_ok Tryz.func36 rfl rfl rfl ?_;refine sR ?_;refine rN ?_;refine rC ?_;refine nR ?_;refine rC ?_;refine nQ ?_;refine sR ?_;refine rC ?_;refine rQ iB ?_
 refine nS ?_;refine wc_block ?_;refine sR ?_;iterate 2 refine rC ?_
 refine nS ?_;refine wF ?_;refine sR ?_;iterate 2 refine rC ?_
 refine nS ?_;refine wF ?_;refine sR ?_;iterate 2 refine rC ?_
 refine nS ?_;refine wF ?_;refine sR ?_;iterate 2 refine rC ?_
 refine nS ?_;refine wT ?_;refine wc_seq ?_;refine wc_draw (by kernel_rfl) ?_;refine dC [3] [] ?_;refine dC [1] [] ?_;refine dQ [35] [64] iB ?_;refine dQ [34, 36] [] (call_r (itoa_is s0 s1) rfl rfl (arg_e arg_nil) (.inl rfl) (fun _ => rfl)) ?_
 refine dQ [37] [] (add_str (a := sReplay ++ [32]) (b := Lib.itoa a.sector) rfl rfl (by simp [sReplay]; omega) rfl) ?_
 refine dQ [38] [] (add_str (a := sReplay ++ [32] ++ Lib.itoa a.sector) (b := [32]) rfl rfl (by simp [sReplay]; omega) rfl) ?_
 refine dC [3] [] ?_;refine dC [1] [] ?_;refine dQ [41] [64] iB ?_;refine dQ [40, 42] [] (call_r (itoa_is b0 b1) rfl rfl (arg_e arg_nil) (.inl rfl) (fun _ => rfl)) ?_
 refine dQ [39, 43] [] (add_str (a := sReplay ++ [32] ++ Lib.itoa a.sector ++ [32]) (b := Lib.itoa a.back) rfl rfl (by simp [sReplay]; omega) rfl) ?_
 refine dC [44] [] ?_;refine dreg_end (by kernel_rfl) ?_;refine seq_n ?_;refine wc_ret ?_;refine blk_r ?_;refine seq_r ?_
 exact ⟨trivial, [], lf⟩
theorem actline_5 (a : SAct) (h1 : ¬ a.kind = 1) (h2 : ¬ a.kind = 2) (h3 : ¬ a.kind = 3) (h4 : ¬ a.kind = 4) : FnIs Tryz.prog 36 [.d (encAct a)] [] (.d (strD (lineA a))) [] := by
 have d1 : decide (a.kind = 1) = false := dF h1
 have d2 : decide (a.kind = 2) = false := dF h2
 have d3 : decide (a.kind = 3) = false := dF h3
 have d4 : decide (a.kind = 4) = false := dF h4
 rw [show lineA a = sFall by rw [lineA, if_neg h1, if_neg h2, if_neg h3, if_neg h4]]
 refine fnIs_of tab_ok Tryz.func36 rfl rfl rfl ?_;refine sR ?_;refine rN ?_;refine rC ?_;refine nR ?_;refine rC ?_;refine nQ ?_;refine sR ?_;refine rC ?_;refine rQ iB ?_
 refine nS ?_;refine wc_block ?_;refine sR ?_;iterate 2 refine rC ?_
 refine nS ?_;refine wF ?_;refine sR ?_;iterate 2 refine rC ?_
 refine nS ?_;refine wF ?_;refine sR ?_;iterate 2 refine rC ?_
 refine nS ?_;refine wF ?_;refine sR ?_;iterate 2 refine rC ?_
 refine nS ?_;refine wF ?_;refine wc_skip ?_;refine blk_n ?_;refine seq_n ?_;refine sR ?_;refine rC ?_;refine nS ?_;refine wc_ret ?_
 exact ⟨trivial, [], lf⟩
theorem actline_is (a : SAct) (hok : a.Ok) (hL : a.bytes.length ≤ 524280) : FnIs Tryz.prog 36 [.d (encAct a)] [] (.d (strD (lineA a))) [] := by
 by_cases h1 : a.kind = 1
 ·exact actline_1 a hok hL h1
 by_cases h2 : a.kind = 2
 ·exact actline_2 a hok hL h2
 by_cases h3 : a.kind = 3
 ·exact actline_3 a hok hL h3
 by_cases h4 : a.kind = 4
 ·exact actline_4 a hok hL h4
 exact actline_5 a h1 h2 h3 h4
end Go.Proofs.YthiijfbcfoifnaaGreatDoor
namespace Go.Proofs.YthiijfbcfoifnaaGreatDoor
open Go.Eng Go.Plain Go.RowKit Go.Sort Go.Shelf
set_option maxHeartbeats 6400000
set_option maxRecDepth 100000
theorem fu_inner (u : Nat) (hu64 : u < 18446744073709551616) (w : World) (htab : Lib.TabIs Tryz.prog w "internal/strconv.uint64pow10" .u64 Lib.pow10Tab) :
  Calls Tryz.prog 69 #[.int .u64 u, .int .i64 10] w fun e w' => e = .returned (.string ⟨(Lib.decDigits u).toArray⟩) ∧ ∃ k os, w' = grow (w.drewN k) os := by
 by_cases hs : u < 100
 ·have hw : IntKind.i64.wrap (u : Int) = (u : Int) := wrap_i64 (by omega) (by omega)
  go_enter Tryz.func69, Tryz.ntmps69
  go_wp2_with (refine (Tryz.internal_strconv_small u hs _).mono ?_; rintro e w' ⟨rfl, rfl⟩)
  go_ret
  exact ⟨rfl, 0, #[], by simp [World.drewN_zero]⟩
 ·have hu1 : 1 ≤ u := by omega
  have hnd20 : Lib.nDigits u ≤ 20 := by have := Lib.numDigits_eq u hu1 hu64; split at this <;> omega
  have hH0 := Lib.holds_zero0 w 169 (Lib.nDigits u) (by omega)
  have hfmt := Tryz.internal_strconv_formatBase10 w.heap.size 0 24 u (Array.replicate (Lib.nDigits u) 0) (w.alloc (.cells Lib.zeros24 169)) hH0 (by rw [Array.size_replicate]; exact Lib.lt_pow_nDigits u) hu64 (by rw [Array.size_replicate]; omega)
  rw [Array.size_replicate] at hfmt
  have HH0 := Lib.hid hH0
  clear hH0
  have hal : Tryz.prog.arrayLen 169 = 24 := by simp [Program.arrayLen, Tryz.underlying169]
  have hsl : ∀ W, (Instr.sliceAt 169 (.pointer (some ⟨w.heap.size, 0, none⟩)) none (some (.int .i64 (Lib.nDigits u : Int))) none).run Tryz.prog W = .ok (.slice (some ⟨w.heap.size, 0, none⟩) (Lib.nDigits u) 24) W := fun W => by
   rw [run_sliceAt_array_h W 169 ⟨w.heap.size, 0, none⟩ (by simp [Program.arrayLen, Program.elem, Tryz.underlying169]) .i64 (Lib.nDigits u : Int) (by omega) (by rw [hal]; omega)]
   go_simp
  clear hal
  go_enter Tryz.func69, Tryz.ntmps69
  go_wp2_with (refine (Tryz.internal_strconv_numDigits u hu1 hu64 _ (Lib.tabIs_alloc htab _)).mono ?_; rintro e w' ⟨rfl, rfl⟩)
  refine hfmt.mono ?_
  rintro e w' ⟨rfl, k, v', dk, rfl, hF⟩
  have hcv : (convert 34 9 (.slice (some ⟨w.heap.size, 0, none⟩) (Lib.nDigits u) 24)).run Tryz.prog ((putRow (fun (b : UInt8) => Value.int .u8 (b.toNat : Int)) (w.alloc (.cells Lib.zeros24 169)) w.heap.size 0 dk).drewN k) = .ok (.string ⟨(Lib.decDigits u).toArray⟩) ((putRow (fun (b : UInt8) => Value.int .u8 (b.toNat : Int)) (w.alloc (.cells Lib.zeros24 169)) w.heap.size 0 dk).drewN k) := by
   have h := run_convert_bytes_back (P := Tryz.prog) ((putRow (fun (b : UInt8) => Value.int .u8 (b.toNat : Int)) (w.alloc (.cells Lib.zeros24 169)) w.heap.size 0 dk).drewN k) 34 9 5 ⟨w.heap.size, 0, none⟩ 24 (Lib.decDigits u) Tryz.underlying34 Tryz.underlying5 Tryz.underlying9 (fun j hj => by
    rw [Lib.row_is_numeral hF j hj, Lib.add_plain, World.cell?_drewN]
    exact cell?_putRow (fun (b : UInt8) => Value.int .u8 (b.toNat : Int)) _ w.heap.size 0 _ dk HH0.out (by rw [hF.size, Array.size_replicate]) j (by rw [hF.size]; rw [Lib.decDigits_length] at hj; exact hj))
   rw [Lib.decDigits_length] at h
   exact h
  go_wp2
  go_ret
  obtain ⟨os, eo⟩ := Lib.fin_at w (.cells Lib.zeros24 169) dk k 0
  exact ⟨rfl, k, os, eo⟩
end Go.Proofs.YthiijfbcfoifnaaGreatDoor
namespace Go.Proofs.YthiijfbcfoifnaaGreatDoor
open Go.Eng Go.Plain
set_option maxHeartbeats 4000000
set_option maxRecDepth 20000
attribute [local irreducible] WC RegS RegD SeqQ BlkQ ScoQ RegK CutK Sat SatN FnIs LoopQ StepIs OpIs
theorem fu_in (u : Nat) (hu : u < 18446744073709551616) : FnIs Tryz.prog 69 [.int .u64 u, .int .i64 10] [] (.d (strD (Lib.decDigits u))) [] :=
 .of_calls1 rfl ⟨_, Tryz.func69, by kernel_rfl, by kernel_rfl⟩ fun σ w X vs ha hg => by
  rw [ha.two]
  refine (fu_inner u hu w (glob_tab hg)).mono ?_
  rintro e w' ⟨rfl, k, os, rfl⟩
  exact ⟨rfl, below_grow _ _ _⟩
theorem fu_is (u : Nat) (hu : u < 18446744073709551616) : FnIs Tryz.prog 34 [.int .u64 u, .int .i64 10] [] (.d (strD (Lib.decDigits u))) [] := by
 refine fnIs_of tab_ok Tryz.func34 rfl rfl rfl ?_;refine sR ?_;refine rC ?_;refine nR ?_;iterate 2 refine rC ?_
 refine rQ (call_r (fu_in u hu) rfl rfl (arg_e (arg_e arg_nil)) (.inl rfl) (fun _ => rfl)) ?_;refine rC ?_;refine nS ?_;refine wc_ret ?_
 exact ⟨trivial, [], lf⟩
theorem fuI_is {n : Int} (h : InU n) : FnIs Tryz.prog 34 [.int .u64 n, .int .i64 10] [] (.d (strD (Lib.itoa n))) [] := by
 have := fu_is n.toNat (by have := h.2; omega)
 rw [toNat_eq h.1, ← itoa_nat h.1] at this
 exact this
theorem itoa_lenU {n : Int} (h : InU n) : (Lib.itoa n).length ≤ 20 := by
 rw [itoa_nat h.1]
 exact dec_len10 19 _ (by have := h.2; have := h.1; omega)
theorem text_max2 {l : List (List POp)} (hok : OkL l) (hc : chkP l = 0) : (textP l).length ≤ 100000 := by
 obtain ⟨h1, h2⟩ := chkP_ok.1 hc
 have hb : ∀ p ∈ l, p.length ≤ 64 ∧ ∀ o ∈ p, o.Ok ∧ o.data.length ≤ 64 := fun p hp => by
  have := h2 p hp
  simp only [badP, Bool.or_eq_false_iff, decide_eq_false_iff_not, List.any_eq_false, decide_eq_true_eq] at this
  exact ⟨by omega, fun o ho => ⟨hok p hp o ho, by have := this.2 o ho; omega⟩⟩
 have := text_len (D := 64) (N := 64) l hb
 have h3 : (7 + (51 + 2 * 64) * 64) * l.length ≤ (7 + (51 + 2 * 64) * 64) * 8 := Nat.mul_le_mul_left _ h1
 omega
theorem blen_is (b : Bool) (l : List UInt8) (n : Nat) : FnIs Tryz.prog 37 [.ptr 0 []] [(0, bldRow b 0 1 n), (1, rowT l)] (.int .i64 n) [(0, bldRow b 0 1 n), (1, rowT l)] := by
 cases b with
 | true =>
  refine fnIs_of tab_ok Tryz.func37 rfl rfl rfl ?_;refine sR ?_;refine rC ?_;refine nR ?_;iterate 3 refine rC ?_
  refine rQ iM ?_;refine rQ (len_own tab_ok rfl rfl) ?_;refine rC ?_;refine nS ?_;refine wc_ret ?_
  exact ⟨trivial, [], .of rfl rfl rfl rfl rfl ⟨⟨_, rfl, AVLe.of_eq rfl⟩, rfl, trivial⟩ ⟨⟨rfl, rfl, _, rfl, .refl _⟩, ⟨rfl, rfl, _, rfl, .refl _⟩, trivial⟩⟩
 | false =>
  refine fnIs_of tab_ok Tryz.func37 rfl rfl rfl ?_;refine sR ?_;refine rC ?_;refine nR ?_;iterate 3 refine rC ?_
  refine rQ iM ?_;refine rQ (len_own tab_ok rfl rfl) ?_;refine rC ?_;refine nS ?_;refine wc_ret ?_
  exact ⟨trivial, [], .of rfl rfl rfl rfl rfl ⟨⟨_, rfl, AVLe.of_eq rfl⟩, rfl, trivial⟩ ⟨⟨rfl, rfl, _, rfl, .refl _⟩, ⟨rfl, rfl, _, rfl, .refl _⟩, trivial⟩⟩
theorem writestr2_fresh (l s : List UInt8) (n : Nat) (hn : l.length = n) (hs0 : 0 < s.length) (hlen : n + s.length ≤ 4194304) : FnIs Tryz.prog 33 [.ptr 0 [], .d (strD s)] [(0, bldRow true 0 1 n), (1, rowT l)] (.tup (.acons (.int .i64 s.length) (.acons (.d (.sc .nilIface)) .anil))) [(0, bldRow false 0 64 (n + s.length)), (64, rowT (l ++ s))] := by
 have hbl : n = (byI l).length := by rw [byI_len]; exact hn.symm
 have hcc := copycheck_fresh l n
 have hlen2 : (byI l).length + s.length ≤ 4194304 := by rw [← hbl]; exact hlen
 refine fnIs_of tab_ok Tryz.func33 rfl rfl rfl ?_;refine sR ?_;iterate 2 refine rC ?_
 refine nR ?_;refine rC ?_;refine reg_do rfl (call_h [(0, some 0), (1, some 1)] hcc rfl rfl rfl (arg_ptr rfl rfl arg_nil) ⟨⟨rfl, rfl, _, _, rfl, rfl, .refl _⟩, ⟨rfl, rfl, _, _, rfl, rfl, .refl _⟩, trivial⟩ rfl rfl (.inl rfl) rfl rfl) rfl rfl ?_
 refine nR ?_;iterate 4 refine rC ?_
 refine rQ iM ?_;refine rC ?_;refine reg_new2 (append_str2 (l := s) tab_ok rfl Tryz.underlying9 rfl rfl rfl hbl rfl rfl hs0 hlen2 rfl) rfl ?_;iterate 2 refine rC ?_
 refine reg_store (store_row tab_ok rfl rfl rfl ⟨_, ⟨_, ⟨rfl, rfl, rfl⟩, rfl⟩, rfl⟩ rfl) ?_;refine nR ?_;refine rC ?_;refine rQ (len_s tab_ok rfl rfl) ?_;iterate 2 refine rC ?_
 refine nS ?_;refine wc_ret ?_
 rw [byI_app l s]
 exact ⟨trivial, [(64, some 144)], .of rfl rfl rfl rfl rfl ⟨⟨_, rfl, AVLe.of_eq rfl⟩, rfl, trivial⟩ ⟨⟨rfl, rfl, _, rfl, RowLe.of_eq (by rw [hbl]; rfl)⟩, ⟨rfl, rfl, _, rfl, .refl _⟩, trivial⟩⟩
theorem writestr2_used (l s : List UInt8) (n : Nat) (hn : l.length = n) (hs0 : 0 < s.length) (hlen : n + s.length ≤ 4194304) : FnIs Tryz.prog 33 [.ptr 0 [], .d (strD s)] [(0, bldRow false 0 1 n), (1, rowT l)] (.tup (.acons (.int .i64 s.length) (.acons (.d (.sc .nilIface)) .anil))) [(0, bldRow false 0 64 (n + s.length)), (64, rowT (l ++ s))] := by
 have hbl : n = (byI l).length := by rw [byI_len]; exact hn.symm
 have hcc := copycheck_used l n
 have hlen2 : (byI l).length + s.length ≤ 4194304 := by rw [← hbl]; exact hlen
 refine fnIs_of tab_ok Tryz.func33 rfl rfl rfl ?_;refine sR ?_;iterate 2 refine rC ?_
 refine nR ?_;refine rC ?_;refine reg_do rfl (call_h [(0, some 0), (1, some 1)] hcc rfl rfl rfl (arg_ptr rfl rfl arg_nil) ⟨⟨rfl, rfl, _, _, rfl, rfl, .refl _⟩, ⟨rfl, rfl, _, _, rfl, rfl, .refl _⟩, trivial⟩ rfl rfl (.inl rfl) rfl rfl) rfl rfl ?_
 refine nR ?_;iterate 4 refine rC ?_
 refine rQ iM ?_;refine rC ?_;refine reg_new2 (append_str2 (l := s) tab_ok rfl Tryz.underlying9 rfl rfl rfl hbl rfl rfl hs0 hlen2 rfl) rfl ?_;iterate 2 refine rC ?_
 refine reg_store (store_row tab_ok rfl rfl rfl ⟨_, ⟨_, ⟨rfl, rfl, rfl⟩, rfl⟩, rfl⟩ rfl) ?_;refine nR ?_;refine rC ?_;refine rQ (len_s tab_ok rfl rfl) ?_;iterate 2 refine rC ?_
 refine nS ?_;refine wc_ret ?_
 rw [byI_app l s]
 exact ⟨trivial, [(64, some 144)], .of rfl rfl rfl rfl rfl ⟨⟨_, rfl, AVLe.of_eq rfl⟩, rfl, trivial⟩ ⟨⟨rfl, rfl, _, rfl, RowLe.of_eq (by rw [hbl]; rfl)⟩, ⟨rfl, rfl, _, rfl, .refl _⟩, trivial⟩⟩
theorem writestr2_is (b : Bool) (l s : List UInt8) (n : Nat) (hn : l.length = n) (hs0 : 0 < s.length) (hlen : n + s.length ≤ 4194304) : FnIs Tryz.prog 33 [.ptr 0 [], .d (strD s)] [(0, bldRow b 0 1 n), (1, rowT l)] (.tup (.acons (.int .i64 s.length) (.acons (.d (.sc .nilIface)) .anil))) [(0, bldRow false 0 64 (n + s.length)), (64, rowT (l ++ s))] := by
 cases b with
 | true => exact writestr2_fresh l s n hn hs0 hlen
 | false => exact writestr2_used l s n hn hs0 hlen
end Go.Proofs.YthiijfbcfoifnaaGreatDoor
namespace Go.Eng
open Go.RowKit
open Go.ChangeMaps (setBlock)
section
variable {P : Program} {T : Tab} {env : Env} {h : Upds} {n : Nat}
variable {sz : Nat} {all rest : List Oper} {K : Env → Upds → Nat → Prop}
end
end Go.Eng
namespace Go.Eng
open Go.RowKit
section
variable {P : Program} {T : Tab} {env : Env} {h : Upds} {n : Nat}
end
end Go.Eng
namespace Go.Eng
open Go.RowKit
set_option linter.unusedSimpArgs false
section
variable {P : Program} {T : Tab} {env : Env} {h : Upds} {n : Nat}
theorem run_neq_ni {t : Nat} {w : World} {ms} (hud : P.underlying t = some (.interface ms)) : (binOp .neq t .nilIface .nilIface).run P w = .ok (.bool false) w := by
 have h1 : (Op.equalIn 10000 t .nilIface .nilIface).run P w = .ok true w := by
  rw [show (10000 : Nat) = 9999 + 1 from rfl, Op.equalIn]
  simp only [Sem.run_bind, run_underlying hud, Result.andThen_ok, Sem.run_pure]
 show (do let b ← Op.equalIn 10000 t _ _; pure (Value.bool !b) : Sem Value).run P w = _
 simp only [Sem.run_bind, h1, Result.andThen_ok, Sem.run_pure, Bool.not_true]
theorem run_neq_er {t t1 : Nat} {w : World} {ms} {v : Value} (hud : P.underlying t = some (.interface ms)) : (binOp .neq t (.iface t1 v) .nilIface).run P w = .ok (.bool true) w := by
 have h1 : (Op.equalIn 10000 t (.iface t1 v) .nilIface).run P w = .ok false w := by
  rw [show (10000 : Nat) = 9999 + 1 from rfl, Op.equalIn]
  simp only [Sem.run_bind, run_underlying hud, Result.andThen_ok, Sem.run_pure]
 show (do let b ← Op.equalIn 10000 t _ _; pure (Value.bool !b) : Sem Value).run P w = _
 simp only [Sem.run_bind, h1, Result.andThen_ok, Sem.run_pure, Bool.not_false]
theorem neq_nilI {t t' : Nat} {x : Operand} {ms} (hu : P.underlying t = some (.interface ms)) (hx : evalA env x = some (.d (.sc .nilIface))) :
  StepIs P (.binOp .neq t x (.const .nilIface) t') env h n (some (.bool false)) [] := .of_comes fun C G st σ w ac o ho hA hdst hst hn => by
 obtain ⟨hv, _⟩ := RelV.sc.1 (ev_sound hst (hA.ev hx)).1
 refine .quiet (u := .bool false) hst hdst ⟨rfl, rfl⟩ ?_ (RelV.sc.2 ⟨rfl, rfl⟩) trivial
 have hg : (eqGuard .neq t x (.const .nilIface) .nilIface .nilIface).run P w = .ok () w := by
  simp [eqGuard]
  try (cases x <;> rfl)
 have hc : ac.eval (.const .nilIface) = .nilIface := rfl
 simp only [execOp, ho, hv, hc, Sem.run_bind, hg, Result.andThen_ok, run_neq_ni hu, Sem.run_pure]
theorem neq_er {t t' : Nat} {x : Operand} {ms} (hu : P.underlying t = some (.interface ms)) (hx : evalA env x = some .er) :
  StepIs P (.binOp .neq t x (.const .nilIface) t') env h n (some (.bool true)) [] := .of_comes fun C G st σ w ac o ho hA hdst hst hn => by
 obtain ⟨t1, v, hv⟩ := RelV.er.1 (ev_sound hst (hA.ev hx)).1
 refine .quiet (u := .bool true) hst hdst ⟨rfl, rfl⟩ ?_ (RelV.sc.2 ⟨rfl, rfl⟩) trivial
 have hg : (eqGuard .neq t x (.const .nilIface) (.iface t1 v) .nilIface).run P w = .ok () w := rfl
 have hc : ac.eval (.const .nilIface) = .nilIface := rfl
 simp only [execOp, ho, hv, hc, Sem.run_bind, hg, Result.andThen_ok, run_neq_er hu, Sem.run_pure]
theorem slice_ipt (hT : TabOk P T) {t e L s : Nat} {re : TyR} {x : Operand} {α : Type} {enc : α → D} {xs : List α} (ht : tdesc T t = some (.array L e)) (he : lk T e = some re) (hx : evalA env x = some (.iptr (.vec L s enc xs))) (hL : Nat.ble L 1048576 = true) (hs0 : Nat.blt 0 s = true) :
  StepIs P (.slice t x none none none) env h n (some (.d (.arr s enc xs))) [] := .of_comes fun C G st σ w a o ho hA hdst hst hn => by
 obtain ⟨ud, hud, hdd⟩ := tdesc_und hT ht
 cases hdd
 have hL := Nat.le_of_ble_eq_true hL
 have hs0 := Nat.le_of_ble_eq_true hs0
 have hsz := (hT e re he).run_size (P := P)
 obtain ⟨ad, cs, hv, ⟨hl, f, hf, hcs⟩, hc⟩ := RelV.iptr.1 (ev_sound hst (hA.ev hx)).1
 have hmax : (1048576 : Nat) ≤ maxLen := by decide
 refine .quiet (u := .slice (some ad) L L) hst hdst ⟨rfl, rfl⟩ ?_ (RelV.arr.2 (.inr ⟨ad, L, by rw [hl], by omega, by omega, f, fun i hi => ⟨(hf i hi).1, (hf i hi).2, fun j u hj => ?_⟩⟩)) trivial
 ·simp [execOp, ho, Instr.sliceAt, hv, Instr.sureAddr, run_underlying hud, Instr.sliceBounds, Instr.sliceBound, asIntOf, hsz, Sem.run_bind, Sem.run_pure, Result.andThen_ok, Addr.add_zero']
 ·have hjs : j < s := by rw [← (hf i hi).2]; exact (List.getElem?_eq_some_iff.1 hj).1
  have := cat_get xs.length (fun i hi => (hf i hi).2) i j hi hjs
  rw [hj] at this
  refine hc _ _ ?_
  rw [hcs, ← hl]
  exact this
end
end Go.Eng
namespace Go.Proofs.YthiijfbcfoifnaaGreatDoor
open Go.Eng Go.Plain
set_option maxHeartbeats 8000000
set_option maxRecDepth 20000
attribute [local irreducible] WC RegS RegD SeqQ BlkQ ScoQ RegK CutK Sat SatN FnIs LoopQ StepIs OpIs
def partA (c : SCfg) (l : List (List POp)) (bs : List SAct) (i : Nat) : List UInt8 := textS c (textP l) (bs.take i)
theorem actsT_app (a b : List SAct) : actsT (a ++ b) = actsT a ++ actsT b := by simp [actsT]
theorem partA_go {c : SCfg} {l : List (List POp)} {bs : List SAct} {i : Nat} {a : SAct} (h : bs[i]? = some a) : partA c l bs i ++ (lineA a ++ [10]) = partA c l bs (i + 1) := by
 rw [partA, partA, textS, textS, List.take_add_one, h, Option.toList_some, actsT_app]
 simp [actsT]
theorem partA_end (c : SCfg) (l : List (List POp)) (bs : List SAct) : partA c l bs bs.length = textS c (textP l) bs := by rw [partA, List.take_length]
theorem partA_le (c : SCfg) (l : List (List POp)) (bs : List SAct) (i : Nat) : (partA c l bs i).length ≤ (textS c (textP l) bs).length := by
 have := congrArg List.length (actsT_app (bs.take i) (bs.drop i))
 rw [List.take_append_drop, List.length_append] at this
 simp only [partA, textS, List.length_append]
 omega
theorem lineA_len {a : SAct} (h : a.Ok) : (lineA a).length ≤ 60 + 2 * a.bytes.length := by
 obtain ⟨_, ⟨t0, t1⟩, ⟨s0, s1⟩, ⟨b0, b1⟩⟩ := h
 have l1 := itoa_len t0 t1
 have l2 := itoa_len s0 s1
 have l3 := itoa_len b0 b1
 have l4 := hexP_len a.bytes
 unfold lineA
 split
 ·simp [sPick]; omega
 split
 ·simp [sEdit]; omega
 split
 ·simp [sErase]; omega
 split
 ·simp [sReplay]; omega
 ·simp [sFall]; omega
theorem actB_len {thr sec : Int} {a : SAct} (h : actB thr sec a = true) : a.bytes.length ≤ 256 := by
 unfold actB at h
 split at h
 ·simp only [Bool.and_eq_true, decide_eq_true_eq] at h
  rw [h.2.2]; simp
 split at h
 ·simp only [Bool.and_eq_true, decide_eq_true_eq] at h
  exact h.1.1.1
 split at h
 ·simp only [Bool.and_eq_true, decide_eq_true_eq] at h
  rw [h.2.2]; simp
 split at h
 ·simp only [Bool.and_eq_true, decide_eq_true_eq] at h
  rw [h.2.2]; simp
 split at h
 ·simp only [Bool.and_eq_true, decide_eq_true_eq] at h
  rw [h.2]; simp
 ·cases h
theorem stext_bad (c : SCfg) (l : List (List POp)) (bs : List SAct) (hc : c.Ok) (hl : Bd l) (hb : bs.length ≤ 1000000000) (h0 : schk c l bs ≠ 0) : FnIs Tryz.prog 12 [.d (encScr c l bs)] [] (.tup (.acons (.d (strD [])) (.acons (.d (i6 (schk c l bs))) .anil))) [] := by
 have hchk := scheck_is c l bs hc hl hb
 have hn : (!decide (schk c l bs = 0)) = true := by rw [dF h0]; rfl
 refine fnIs_of tab_ok Tryz.func12 rfl rfl rfl ?_;refine sR ?_;refine rN ?_;iterate 2 refine rC ?_
 refine nQ ?_;refine sR ?_;refine rQ iM ?_;refine rQ (call_r hchk rfl rfl (arg_e arg_nil) (.inl rfl) (fun _ => rfl)) ?_;refine rC ?_;refine nR ?_;iterate 2 refine rC ?_
 refine nS ?_;refine wT ?_;refine sR ?_;iterate 3 refine rC ?_
 refine nS ?_;refine wc_ret ?_;refine seq_r ?_
 exact ⟨trivial, [], lf⟩
theorem stext_ok (c : SCfg) (l : List (List POp)) (bs : List SAct) (hc : c.Ok) (hl : Bd l) (hok : OkL l) (hb : bs.length ≤ 1000000000) (hbo : ∀ a ∈ bs, a.Ok) (h0 : schk c l bs = 0) : FnIs Tryz.prog 12 [.d (encScr c l bs)] [] (.tup (.acons (.d (strD (textP2 c l bs).1)) (.acons (.d (i6 (textP2 c l bs).2)) .anil))) [] := by
 have hchk := scheck_is c l bs hc hl hb
 rw [h0] at hchk
 obtain ⟨hw0, hp0, _, hb4, hall⟩ := schk_ok h0
 have htx := text_is l hl hok
 rw [hp0, if_pos rfl] at htx
 obtain ⟨htm, _⟩ := text_max hok hp0
 obtain ⟨⟨a1, a2⟩, ⟨a3, a4⟩, ⟨a5, a6⟩, ⟨a7, a8⟩, hlim, hres, hm, ⟨fl0, fl1⟩⟩ := hc
 have f0 : -9223372036854775808 ≤ c.flaw := by omega
 have f1 : c.flaw ≤ 9223372036854775807 := by omega
 have hwf : IntKind.i64.wrap c.flaw = c.flaw := wrap_i64 f0 f1
 have hm32 : c.master.length ≤ 524280 := by omega
 have k1 := itoa_len a1 a2
 have k2 := itoa_len a3 a4
 have k3 := itoa_len a5 a6
 have k4 := itoa_len a7 a8
 have k5 := itoa_lenU hlim
 have k6 := itoa_lenU hres
 have k7 := itoa_len f0 f1
 have k8 := hexP_len c.master
 obtain ⟨q0, hq0⟩ : ∃ q, sVolume ++ [32] ++ Lib.itoa c.blocks ++ [32] ++ Lib.itoa c.shards ++ [32] ++ Lib.itoa c.frames ++ [32] ++ Lib.itoa c.clients ++ [10] = q := ⟨_, rfl⟩
 obtain ⟨q1, hq1⟩ : ∃ q, sNonces ++ [32] ++ Lib.itoa c.limit ++ [32] ++ Lib.itoa c.reserve ++ [10] = q := ⟨_, rfl⟩
 obtain ⟨q2, hq2⟩ : ∃ q, sFlaw ++ [32] ++ Lib.itoa c.flaw ++ ([10] ++ sMaster ++ [32]) ++ hexP c.master ++ ([10] ++ sPrograms ++ [10]) ++ textP l ++ (sActions ++ [10]) = q := ⟨_, rfl⟩
 have n0 : q0.length ≤ 200 ∧ 0 < q0.length := by rw [← hq0]; simp [sVolume]; omega
 have n1 : q1.length ≤ 200 ∧ 0 < q1.length := by rw [← hq1]; simp [sNonces]; omega
 have htb : (textP l).length ≤ 100000 := text_max2 hok hp0
 have n2 : q2.length ≤ 101000 ∧ 0 < q2.length := by rw [← hq2]; simp [sFlaw, sMaster, sPrograms, sActions]; omega
 have hall0 : [] ++ q0 ++ q1 ++ q2 = partA c l bs 0 := by
  rw [← hq0, ← hq1, ← hq2]
  simp [partA, textS, linesT, headsT, head0, head1, head2, head3, actsT]
 have hn0 : (partA c l bs 0).length = ([] : List UInt8).length + q0.length + q1.length + q2.length := by rw [← hall0]; simp only [List.length_append]
 have p0 := n0.2
 have p1 := n1.2
 have p2 := n2.2
 have l0 : ([] : List UInt8).length + q0.length ≤ 4194304 := by simp; omega
 have l1 : ([] : List UInt8).length + q0.length + q1.length ≤ 4194304 := by simp; omega
 have l2 : ([] : List UInt8).length + q0.length + q1.length + q2.length ≤ 4194304 := by simp; omega
 refine fnIs_of tab_ok Tryz.func12 rfl rfl rfl ?_;refine sR ?_;refine rN ?_;iterate 2 refine rC ?_
 refine nQ ?_;refine sR ?_;refine rQ iM ?_;refine rQ (call_r hchk rfl rfl (arg_e arg_nil) (.inl rfl) (fun _ => rfl)) ?_;refine rC ?_;refine nR ?_;iterate 2 refine rC ?_
 refine nS ?_;refine wG ?_;refine kS ?_;refine sR ?_;refine rC ?_;refine rQ iB ?_;refine rQ (call_r htx rfl rfl (arg_e arg_nil) (.inl rfl) (fun _ => rfl)) ?_;iterate 5 refine rC ?_
 refine nQ ?_;refine sR ?_;iterate 2 refine rC ?_
 refine nS ?_;refine wG ?_;refine kS ?_;refine sR ?_;refine rC ?_;refine rQ iB ?_;refine rN ?_;refine rW ?_;refine rC ?_;refine nR ?_;refine rN ?_;refine nS ?_;refine wc_freeze (env' := [(9, _), (8, _), (7, _), (5, _), (1, _)]) (h' := [(248, some _), (64, some _)]) 224 _ rfl ⟨⟨_, rfl, .refl _⟩, ⟨_, rfl, .refl _⟩, ⟨_, rfl, Frz.ptr⟩, ⟨_, rfl, .refl _⟩, ⟨_, rfl, .refl _⟩, trivial⟩ ⟨⟨rfl, _, rfl, .refl _⟩, ⟨rfl, _, rfl, .refl _⟩, trivial⟩ ?_
 refine wc_le (env' := [(9, .ptr 66 []), (8, fnA 32), (7, .d (.pt (encCfg c))), (5, .d (strD (textP l))), (1, .ptr 64 [])]) (h' := [(66, some (bldRow true 66 67 0)), (67, some (rowT [])), (64, some (.box 30 (.d (encScr c l bs))))]) 72 [(66, some 248), (67, none)] (.of rfl rfl rfl rfl rfl ⟨⟨_, rfl, .refl _⟩, rfl, ⟨_, rfl, .refl _⟩, rfl, ⟨_, rfl, .refl _⟩, rfl, ⟨_, rfl, .refl _⟩, rfl, ⟨_, rfl, .refl _⟩, rfl, trivial⟩ ⟨⟨rfl, rfl, _, rfl, RowLe.split2⟩, ⟨rfl, rfl, rfl⟩, ⟨rfl, rfl, _, rfl, .refl _⟩, trivial⟩) ?_
 refine wc_seq ?_;refine wc_draw (by kernel_rfl) ?_;refine dC [8] [] ?_;refine dQ [7] [] (fieldAddr_pt tab_ok rfl rfl rfl rfl) ?_;refine dQ [29] [] iL ?_;refine dQ [28, 30] [] (call_r (itoa_is a1 a2) rfl rfl (arg_e arg_nil) (.inl rfl) (fun _ => rfl)) ?_
 refine dQ [31] [] (add_str (a := sVolume ++ [32]) (b := Lib.itoa c.blocks) rfl rfl (by simp [sVolume, sNonces, sFlaw, sMaster, sPrograms, sActions]; omega) rfl) ?_
 refine dQ [32] [] (add_str (a := sVolume ++ [32] ++ Lib.itoa c.blocks) (b := [32]) rfl rfl (by simp [sVolume, sNonces, sFlaw, sMaster, sPrograms, sActions]; omega) rfl) ?_
 refine dC [8] [] ?_;refine dQ [7] [] (fieldAddr_pt tab_ok rfl rfl rfl rfl) ?_;refine dQ [35] [] iL ?_;refine dQ [34, 36] [] (call_r (itoa_is a3 a4) rfl rfl (arg_e arg_nil) (.inl rfl) (fun _ => rfl)) ?_
 refine dQ [33, 37] [] (add_str (a := sVolume ++ [32] ++ Lib.itoa c.blocks ++ [32]) (b := Lib.itoa c.shards) rfl rfl (by simp [sVolume, sNonces, sFlaw, sMaster, sPrograms, sActions]; omega) rfl) ?_
 refine dQ [38] [] (add_str (a := sVolume ++ [32] ++ Lib.itoa c.blocks ++ [32] ++ Lib.itoa c.shards) (b := [32]) rfl rfl (by simp [sVolume, sNonces, sFlaw, sMaster, sPrograms, sActions]; omega) rfl) ?_
 refine dC [8] [] ?_;refine dQ [7] [] (fieldAddr_pt tab_ok rfl rfl rfl rfl) ?_;refine dQ [41] [] iL ?_;refine dQ [40, 42] [] (call_r (itoa_is a5 a6) rfl rfl (arg_e arg_nil) (.inl rfl) (fun _ => rfl)) ?_
 refine dQ [39, 43] [] (add_str (a := sVolume ++ [32] ++ Lib.itoa c.blocks ++ [32] ++ Lib.itoa c.shards ++ [32]) (b := Lib.itoa c.frames) rfl rfl (by simp [sVolume, sNonces, sFlaw, sMaster, sPrograms, sActions]; omega) rfl) ?_
 refine dQ [44] [] (add_str (a := sVolume ++ [32] ++ Lib.itoa c.blocks ++ [32] ++ Lib.itoa c.shards ++ [32] ++ Lib.itoa c.frames) (b := [32]) rfl rfl (by simp [sVolume, sNonces, sFlaw, sMaster, sPrograms, sActions]; omega) rfl) ?_
 refine dC [8] [] ?_;refine dQ [7] [] (fieldAddr_pt tab_ok rfl rfl rfl rfl) ?_;refine dQ [47] [] iL ?_;refine dQ [46, 48] [] (call_r (itoa_is a7 a8) rfl rfl (arg_e arg_nil) (.inl rfl) (fun _ => rfl)) ?_
 refine dQ [45, 49] [] (add_str (a := sVolume ++ [32] ++ Lib.itoa c.blocks ++ [32] ++ Lib.itoa c.shards ++ [32] ++ Lib.itoa c.frames ++ [32]) (b := Lib.itoa c.clients) rfl rfl (by simp [sVolume, sNonces, sFlaw, sMaster, sPrograms, sActions]; omega) rfl) ?_
 refine dQ [50] [] (add_str (a := sVolume ++ [32] ++ Lib.itoa c.blocks ++ [32] ++ Lib.itoa c.shards ++ [32] ++ Lib.itoa c.frames ++ [32] ++ Lib.itoa c.clients) (b := [10]) rfl rfl (by simp [sVolume, sNonces, sFlaw, sMaster, sPrograms, sActions]; omega) hq0) ?_
 refine dreg_step rfl (call_h [(0, some _), (1, some _)] (writestr2_is true [] q0 _ rfl p0 l0) rfl rfl rfl (arg_ptr rfl rfl (arg_e arg_nil)) ⟨⟨rfl, rfl, _, _, rfl, rfl, .refl _⟩, ⟨rfl, rfl, _, _, rfl, rfl, .refl _⟩, trivial⟩ rfl rfl (.inl rfl) rfl rfl) rfl rfl ?_
 refine dreg_end (by kernel_rfl) ?_;refine seq_n ?_;refine wc_seq ?_;refine wc_draw (by kernel_rfl) ?_;refine dQ [7] [] (fieldAddr_pt tab_ok rfl rfl rfl rfl) ?_;refine dQ [53] [] iL ?_
 refine dQ [54] [] (call_r (fuI_is hlim) rfl rfl (arg_e (arg_e arg_nil)) (.inl rfl) (fun _ => rfl)) ?_
 refine dQ [55] [] (add_str (a := sNonces ++ [32]) (b := Lib.itoa c.limit) rfl rfl (by simp [sVolume, sNonces, sFlaw, sMaster, sPrograms, sActions]; omega) rfl) ?_
 refine dQ [56] [] (add_str (a := sNonces ++ [32] ++ Lib.itoa c.limit) (b := [32]) rfl rfl (by simp [sVolume, sNonces, sFlaw, sMaster, sPrograms, sActions]; omega) rfl) ?_
 refine dQ [7] [] (fieldAddr_pt tab_ok rfl rfl rfl rfl) ?_;refine dQ [58] [] iL ?_;refine dQ [59] [] (call_r (fuI_is hres) rfl rfl (arg_e (arg_e arg_nil)) (.inl rfl) (fun _ => rfl)) ?_
 refine dQ [57, 60] [] (add_str (a := sNonces ++ [32] ++ Lib.itoa c.limit ++ [32]) (b := Lib.itoa c.reserve) rfl rfl (by simp [sVolume, sNonces, sFlaw, sMaster, sPrograms, sActions]; omega) rfl) ?_
 refine dQ [61] [] (add_str (a := sNonces ++ [32] ++ Lib.itoa c.limit ++ [32] ++ Lib.itoa c.reserve) (b := [10]) rfl rfl (by simp [sVolume, sNonces, sFlaw, sMaster, sPrograms, sActions]; omega) hq1) ?_
 refine dreg_step rfl (call_h [(0, some _), (1, some _)] (writestr2_is false ([] ++ q0) q1 (([] : List UInt8).length + q0.length) (by simp) p1 l1) rfl rfl rfl (arg_ptr rfl rfl (arg_e arg_nil)) ⟨⟨rfl, rfl, _, _, rfl, rfl, .refl _⟩, ⟨rfl, rfl, _, _, rfl, rfl, .refl _⟩, trivial⟩ rfl rfl (.inl rfl) rfl rfl) rfl rfl ?_
 refine dreg_end (by kernel_rfl) ?_;refine seq_n ?_;refine wc_seq ?_;refine wc_draw (by kernel_rfl) ?_;refine dC [8] [] ?_;refine dQ [7] [] (fieldAddr_pt tab_ok rfl rfl rfl rfl) ?_
 refine dQ [65] [] iL ?_;refine dQ [66] [] (conv_int (m := c.flaw) tab_ok rfl rfl rfl hwf) ?_;refine dQ [64, 67] [] (call_r (itoa_is f0 f1) rfl rfl (arg_e arg_nil) (.inl rfl) (fun _ => rfl)) ?_
 refine dQ [68] [] (add_str (a := sFlaw ++ [32]) (b := Lib.itoa c.flaw) rfl rfl (by simp [sVolume, sNonces, sFlaw, sMaster, sPrograms, sActions]; omega) rfl) ?_
 refine dQ [69] [] (add_str (a := sFlaw ++ [32] ++ Lib.itoa c.flaw) (b := ([10] ++ sMaster ++ [32])) rfl rfl (by simp [sVolume, sNonces, sFlaw, sMaster, sPrograms, sActions]; omega) rfl) ?_
 refine dQ [7] [] (fieldAddr_pt tab_ok rfl rfl rfl rfl) ?_;refine dQ [71] [] (slice_ipt tab_ok rfl rfl rfl rfl rfl) ?_;refine dQ [72] [] (call_r (digits_is c.master hm32) rfl rfl (arg_e arg_nil) (.inl rfl) (fun _ => rfl)) ?_
 refine dQ [70, 73] [] (add_str (a := sFlaw ++ [32] ++ Lib.itoa c.flaw ++ ([10] ++ sMaster ++ [32])) (b := hexP c.master) rfl rfl (by simp [sVolume, sNonces, sFlaw, sMaster, sPrograms, sActions]; omega) rfl) ?_
 refine dQ [74] [] (add_str (a := sFlaw ++ [32] ++ Lib.itoa c.flaw ++ ([10] ++ sMaster ++ [32]) ++ hexP c.master) (b := ([10] ++ sPrograms ++ [10])) rfl rfl (by simp [sVolume, sNonces, sFlaw, sMaster, sPrograms, sActions]; omega) rfl) ?_
 refine dC [5] [] ?_
 refine dQ [75, 76] [] (add_str (a := sFlaw ++ [32] ++ Lib.itoa c.flaw ++ ([10] ++ sMaster ++ [32]) ++ hexP c.master ++ ([10] ++ sPrograms ++ [10])) (b := textP l) rfl rfl (by simp [sVolume, sNonces, sFlaw, sMaster, sPrograms, sActions]; omega) rfl) ?_
 refine dQ [77] [] (add_str (a := sFlaw ++ [32] ++ Lib.itoa c.flaw ++ ([10] ++ sMaster ++ [32]) ++ hexP c.master ++ ([10] ++ sPrograms ++ [10]) ++ textP l) (b := (sActions ++ [10])) rfl rfl (by simp [sVolume, sNonces, sFlaw, sMaster, sPrograms, sActions]; omega) hq2) ?_
 refine dreg_step rfl (call_h [(0, some _), (1, some _)] (writestr2_is false ([] ++ q0 ++ q1) q2 (([] : List UInt8).length + q0.length + q1.length) (by simp) p2 l2) rfl rfl rfl (arg_ptr rfl rfl (arg_e arg_nil)) ⟨⟨rfl, rfl, _, _, rfl, rfl, .refl _⟩, ⟨rfl, rfl, _, _, rfl, rfl, .refl _⟩, trivial⟩ rfl rfl (.inl rfl) rfl rfl) rfl rfl ?_
 refine dreg_end (by kernel_rfl) ?_;refine seq_n ?_;refine qR ?_;refine rC ?_;refine rQ iB ?_;refine rQ iE ?_;refine rC ?_;refine nS ?_;refine wc_block ?_
 refine wc_inv (fun i : Nat => ⟨[(83, .int .i64 i), (82, .int .i64 bs.length), (81, .d (encAs bs)), (9, .ptr 66 [])], [(66, some (bldRow false 66 67 (partA c l bs i).length)), (67, some (rowT (partA c l bs i)))], 72, Tryz.f12.ntmps, 64⟩) (fun i => i ≤ bs.length ∧ (partA c l bs i).length ≤ 1048576) (fun i => bs.length - i) 0 [(67, some 480)] ⟨Nat.zero_le _, by rw [← hall0]; simp; omega⟩
  (.of rfl rfl rfl rfl rfl ⟨⟨_, rfl, .refl _⟩, rfl, ⟨_, rfl, .refl _⟩, rfl, ⟨_, rfl, .refl _⟩, rfl, ⟨_, rfl, .refl _⟩, rfl, trivial⟩ ⟨⟨rfl, rfl, _, rfl, RowLe.of_eq (by rw [hn0]; rfl)⟩, ⟨rfl, rfl, _, rfl, RowLe.of_eq (congrArg rowT hall0)⟩, trivial⟩) ?_
 rintro i ⟨hi, hi2⟩
 refine wc_of ?_;refine sR ?_;refine rC ?_;refine nQ ?_
 by_cases hlt : i < bs.length
 ·have d1 : decide ((i : Int) < (bs.length : Int)) = true := dT (by omega)
  obtain ⟨a, ha⟩ : ∃ a, bs[i]? = some a := ⟨_, List.getElem?_eq_getElem hlt⟩
  have ha2 : bs[((i : Int)).toNat]? = some a := by rw [Int.toNat_natCast]; exact ha
  have ham := List.mem_of_getElem? ha
  have hao := hbo a ham
  have hbl := actB_len (hall a ham)
  have hab : a.bytes.length ≤ 524280 := by omega
  have hln := lineA_len hao
  have hl89 : (lineA a).length + [(10 : UInt8)].length ≤ 9223372036854775807 := by simp; omega
  have p90 : 0 < (lineA a ++ [10]).length := by simp
  have l90 : (partA c l bs i).length + (lineA a ++ [10]).length ≤ 4194304 := by rw [List.length_append, show [(10 : UInt8)].length = 1 from rfl]; omega
  have hgo := partA_go (c := c) (l := l) ha
  have hgn : (partA c l bs i).length + (lineA a ++ [10]).length = (partA c l bs (i + 1)).length := List.length_append.symm.trans (congrArg List.length hgo)
  by_cases hbig : 1048576 < (partA c l bs (i + 1)).length
  ·have d2 : decide (1048576 < (((partA c l bs i).length + (lineA a ++ [10]).length : Nat) : Int)) = true := dT (by omega)
   have hle := partA_le c l bs (i + 1)
   rw [show textP2 c l bs = ([], 3) by rw [textP2, if_neg (fun e => e h0), if_pos (by omega)]]
   refine wT ?_;refine kS ?_;refine wc_seq ?_;refine wc_block ?_;refine sR ?_;refine rQ (index_arr tab_ok rfl rfl rfl rfl rfl (by omega) ha2) ?_;refine rQ iL ?_;refine rN ?_
   refine rW ?_;refine nR ?_;refine rQ iM ?_;refine rQ (call_r (actline_is a hao hab) rfl rfl (arg_e arg_nil) (.inl rfl) (fun _ => rfl)) ?_;refine rQ (add_str (a := lineA a) (b := [10]) rfl rfl hl89 rfl) ?_
   refine reg_do rfl (call_h [(0, some 66), (1, some 67)] (writestr2_is false (partA c l bs i) (lineA a ++ [10]) _ rfl p90 l90) rfl rfl rfl (arg_ptr rfl rfl (arg_e arg_nil)) ⟨⟨rfl, rfl, _, _, rfl, rfl, .refl _⟩, ⟨rfl, rfl, _, _, rfl, rfl, .refl _⟩, trivial⟩ rfl rfl (.inl rfl) rfl rfl) rfl rfl ?_
   refine nR ?_;refine reg_do rfl (call_h [(0, some _), (1, some _)] (blen_is false _ _) rfl rfl rfl (arg_ptr rfl rfl arg_nil) ⟨⟨rfl, rfl, _, _, rfl, rfl, .refl _⟩, ⟨rfl, rfl, _, _, rfl, rfl, .refl _⟩, trivial⟩ rfl rfl (.inl rfl) rfl rfl) rfl rfl ?_
   refine rC ?_;refine nS ?_;refine wT ?_;refine sR ?_;iterate 2 refine rC ?_
   refine nS ?_;refine wc_ret ?_;refine blk_r ?_;refine seq_r ?_;refine loop_r ?_;refine blk_r ?_;refine seq_r ?_
   exact ⟨trivial, [], lf⟩
  ·have d2 : decide (1048576 < (((partA c l bs i).length + (lineA a ++ [10]).length : Nat) : Int)) = false := dF (by omega)
   refine wT ?_;refine kS ?_;refine wc_seq ?_;refine wc_block ?_;refine sR ?_;refine rQ (index_arr tab_ok rfl rfl rfl rfl rfl (by omega) ha2) ?_;refine rQ iL ?_;refine rN ?_
   refine rW ?_;refine nR ?_;refine rQ iM ?_;refine rQ (call_r (actline_is a hao hab) rfl rfl (arg_e arg_nil) (.inl rfl) (fun _ => rfl)) ?_;refine rQ (add_str (a := lineA a) (b := [10]) rfl rfl hl89 rfl) ?_
   refine reg_do rfl (call_h [(0, some 66), (1, some 67)] (writestr2_is false (partA c l bs i) (lineA a ++ [10]) _ rfl p90 l90) rfl rfl rfl (arg_ptr rfl rfl (arg_e arg_nil)) ⟨⟨rfl, rfl, _, _, rfl, rfl, .refl _⟩, ⟨rfl, rfl, _, _, rfl, rfl, .refl _⟩, trivial⟩ rfl rfl (.inl rfl) rfl rfl) rfl rfl ?_
   refine nR ?_;refine reg_do rfl (call_h [(0, some _), (1, some _)] (blen_is false _ _) rfl rfl rfl (arg_ptr rfl rfl arg_nil) ⟨⟨rfl, rfl, _, _, rfl, rfl, .refl _⟩, ⟨rfl, rfl, _, _, rfl, rfl, .refl _⟩, trivial⟩ rfl rfl (.inl rfl) rfl rfl) rfl rfl ?_
   refine rC ?_;refine nS ?_;refine wF ?_;refine wc_skip ?_;refine blk_n ?_;refine seq_n ?_;refine wc_region ?_;refine rQ iD ?_;refine rC ?_;refine reg_nil ?_
   exact loop_n (i + 1) [(67, some _)] ⟨hlt, by omega⟩ (by omega) (.of rfl rfl rfl rfl rfl ⟨⟨_, rfl, .refl _⟩, rfl, ⟨_, rfl, .refl _⟩, rfl, ⟨_, rfl, .refl _⟩, rfl, ⟨_, rfl, .refl _⟩, rfl, trivial⟩ ⟨⟨rfl, rfl, _, rfl, RowLe.of_eq (by rw [hgn]; rfl)⟩, ⟨rfl, rfl, _, rfl, RowLe.of_eq (congrArg rowT hgo)⟩, trivial⟩)
 ·have he : i = bs.length := by omega
  subst he
  have d1 : decide ((bs.length : Int) < (bs.length : Int)) = false := dF (by omega)
  have d2 : decide (1048576 < ((partA c l bs bs.length).length : Int)) = false := dF (by omega)
  have hne96 : partA c l bs bs.length ≠ [] := fun e => by
   rw [partA_end] at e
   simp [textS, linesT, headsT] at e
  rw [show textP2 c l bs = (partA c l bs bs.length, 0) by rw [partA_end] at *; rw [textP2, if_neg (fun e => e h0), if_neg (by omega)]]
  refine wF ?_;refine wc_exit ?_;refine seq_x ?_;refine loop_x ?_;refine blk_x ?_;refine seq_n ?_;refine qR ?_;refine reg_do rfl (call_h [(0, some _), (1, some _)] (blen_is false _ _) rfl rfl rfl (arg_ptr rfl rfl arg_nil) ⟨⟨rfl, rfl, _, _, rfl, rfl, .refl _⟩, ⟨rfl, rfl, _, _, rfl, rfl, .refl _⟩, trivial⟩ rfl rfl (.inl rfl) rfl rfl) rfl rfl ?_
  refine rC ?_;refine nS ?_;refine wF ?_;refine kS ?_;refine sR ?_;refine reg_new2 (call_h [(0, some _), (1, some _)] (bstring_is (partA c l bs bs.length) _ rfl hne96 hi2) rfl rfl rfl (arg_ptr rfl rfl arg_nil) ⟨⟨rfl, rfl, _, _, rfl, rfl, .refl _⟩, ⟨rfl, rfl, _, _, rfl, rfl, .refl _⟩, trivial⟩ rfl rfl (.inl rfl) rfl rfl) rfl ?_
  iterate 2 refine rC ?_
  refine nS ?_;refine wc_ret ?_
  exact ⟨trivial, [], lf⟩
theorem stext_is (c : SCfg) (l : List (List POp)) (bs : List SAct) (hc : c.Ok) (hl : Bd l) (hok : OkL l) (hb : bs.length ≤ 1000000000) (hbo : ∀ a ∈ bs, a.Ok) : FnIs Tryz.prog 12 [.d (encScr c l bs)] [] (.tup (.acons (.d (strD (textP2 c l bs).1)) (.acons (.d (i6 (textP2 c l bs).2)) .anil))) [] := by
 by_cases h0 : schk c l bs = 0
 ·exact stext_ok c l bs hc hl hok hb hbo h0
 ·have := stext_bad c l bs hc hl hb h0
  rw [show textP2 c l bs = ([], schk c l bs) by rw [textP2, if_pos h0]]
  exact this
end Go.Proofs.YthiijfbcfoifnaaGreatDoor
namespace Go.Proofs.YthiijfbcfoifnaaGreatDoor
open Go.Eng Go.Plain Go.RowKit Go.Sort Go.Shelf
set_option maxHeartbeats 32000000
set_option maxRecDepth 100000
theorem pu31_empty (w : World) : Calls Tryz.prog 143 #[.string ⟨#[]⟩, .int .i64 10, .int .i64 31] w fun e w' => e = .returned (.tuple #[.int .u64 0, .iface 202 (.int .i64 2)]) ∧ w' = w := by
 go_enter Tryz.func143, Tryz.ntmps143
 go_wp2
 go_ret2
 exact ⟨rfl, rfl⟩
theorem pu31_in (t : ByteArray) (hne : t.size ≠ 0) (hmax : t.size ≤ 9223372036854775806) (w : World) :
  Calls Tryz.prog 143 #[.string t, .int .i64 10, .int .i64 31] w fun e w' => e = .returned (Lib.uintTupleM 202 2147483647 (Lib.parseUintM 2147483647 0 t.data.toList)) ∧ w' = Lib.bytesWorld w 5 t := by
 have hemp : t.toList.isEmpty = false := by
  rw [← decide_eq_emptyBytes]
  exact dF (fun h => hne (by rw [h]; rfl))
 have hcv := Lib.run_convert_string_bytes (P := Tryz.prog) w 9 34 5 t (u := .string) Tryz.underlying9 Tryz.underlying34 Tryz.underlying5
 have hcell : ∀ j, j < t.size → (Lib.bytesWorld w 5 t).cell? ⟨w.heap.size, j, none⟩ = some (.int .u8 (t.data.toList.getD j 0).toNat) := fun j hj => Lib.bytesWorld_cell w 5 t j hj
 obtain ⟨V, hV⟩ : ∃ V, V = Lib.bytesWorld w 5 t := ⟨_, rfl⟩
 rw [← hV] at hcv hcell ⊢
 clear hV
 obtain ⟨l, hl⟩ : ∃ l, l = t.data.toList := ⟨_, rfl⟩
 have hlen : l.length = t.size := by rw [hl, Lib.size_eq]
 rw [← hl] at hcell ⊢
 clear hl
 have hmv : IntKind.u64.wrap (IntKind.u64.wrap 2147483648 - 1) = 2147483647 := by
  rw [IntKind.wrap_u64, IntKind.wrap_u64]
  decide
 go_enter Tryz.func143, Tryz.ntmps143
 go_wp2
 go_loop [12, 13, 101] (fun vu vn vi => ∃ (k acc : Nat) (a : Int), vu = .bool false ∧ vn = .int .u64 a ∧ vi = .int .i64 k ∧ k ≤ t.size ∧ Hid (a = (acc : Int) ∧ acc ≤ 2147483647 ∧ Lib.parseUintM 2147483647 0 l = Lib.parseUintM 2147483647 acc (l.drop k)))
  (fun _ _ vi => t.size - (intOf vi).toNat)
 case atStart => exact ⟨0, 0, 0, rfl, rfl, rfl, by omega, rfl, by omega, rfl⟩
 case round =>
  obtain ⟨k, acc, a, rfl, rfl, rfl, hk, hh⟩ := hrel
  obtain ⟨ha, hacc, hdec⟩ := hh.out
  clear hh
  have a0 : 0 ≤ a := by omega
  have a1 : a ≤ 2147483647 := by omega
  by_cases hkn : k < t.size
  ·have hc := hcell k hkn
   have hdrop : l.drop k = l[k]'(by omega) :: l.drop (k + 1) := List.drop_eq_getElem_cons (by omega)
   have hget : l.getD k 0 = l[k]'(by omega) := by simp [List.getD, List.getElem?_eq_getElem (show k < l.length by omega)]
   rw [hdrop] at hdec
   rw [hget] at hc
   generalize l[k]'(by omega) = c at hc hdec
   have hc256 : c.toNat < 256 := c.toNat_lt
   clear hcell hdrop hget
   by_cases hdig : 48 ≤ c.toNat ∧ c.toNat ≤ 57
   ·obtain ⟨hd0, hd1⟩ := hdig
    have hcut : ¬ 1844674407370955162 ≤ acc := by omega
    by_cases hov : 2147483647 < acc * 10 + (c.toNat - 48)
    ·have hF : Lib.parseUintM 2147483647 acc (c :: l.drop (k + 1)) = .range := by simp [Lib.parseUintM, hd0, hd1, hcut, hov]
     rw [hF] at hdec
     have iov : 2147483647 < a * 10 + ((c.toNat : Int) - 48) := by omega
     clear hcut hacc hF hov ha
     go_wp2
     go_ret2
     exact ⟨rfl, rfl⟩
    ·have hF : Lib.parseUintM 2147483647 acc (c :: l.drop (k + 1)) = Lib.parseUintM 2147483647 (acc * 10 + (c.toNat - 48)) (l.drop (k + 1)) := by simp [Lib.parseUintM, hd0, hd1, hcut, hov]
     have hnew : Hid (a * 10 + ((c.toNat : Int) - 48) = ((acc * 10 + (c.toNat - 48) : Nat) : Int) ∧ acc * 10 + (c.toNat - 48) ≤ 2147483647 ∧ Lib.parseUintM 2147483647 0 l = Lib.parseUintM 2147483647 (acc * 10 + (c.toNat - 48)) (l.drop (k + 1))) := Lib.hid ⟨by omega, by omega, hdec.trans hF⟩
     have iov : a * 10 + ((c.toNat : Int) - 48) ≤ 2147483647 := by omega
     clear hcut hacc hF hov hdec ha
     go_wp2
     refine ⟨⟨k + 1, acc * 10 + (c.toNat - 48), a * 10 + ((c.toNat : Int) - 48), rfl, (by first | rfl | (congr 1; omega)), (by first | rfl | (congr 1; omega)), by omega, hnew⟩, by simp [intOf]; omega⟩
   ·have hF : Lib.parseUintM 2147483647 acc (c :: l.drop (k + 1)) = Lib.parseUintB 31 [] := by simp [Lib.parseUintM, Lib.parseUintB, hdig]
    rw [hF] at hdec
    clear hacc hF ha
    have hv0 := bits_lo_u8 .or (c.toNat : Int) 32
    have hv1 := bits_hi_u8 .or (c.toNat : Int) 32
    have hu0 := bits_lo_u8 .or 95 32
    have hu1 := bits_hi_u8 .or 95 32
    go_wp2_with (refine (Tryz.internal_strconv_lower _ _).mono ?_; rintro e w' ⟨rfl, rfl⟩)
    all_goals go_ret2
    all_goals first | exact ⟨rfl, rfl⟩ | exact ⟨by rw [hdec]; rfl, rfl⟩
  ·have hkk : k = t.size := by omega
   subst hkk
   have hF : Lib.parseUintM 2147483647 acc (l.drop t.size) = .ok acc := by rw [List.drop_eq_nil_of_le (by omega)]; rfl
   rw [hF] at hdec
   subst ha
   clear hacc hF a0 a1
   go_wp2
   go_ret2
   exact ⟨rfl, rfl⟩
end Go.Proofs.YthiijfbcfoifnaaGreatDoor
namespace Go.Proofs.YthiijfbcfoifnaaGreatDoor
open Go.Eng Go.Plain Go.RowKit Go.Sort Go.Shelf
set_option maxHeartbeats 8000000
set_option maxRecDepth 100000
theorem pu31_any (s : ByteArray) (hmax : s.size ≤ 9223372036854775806) (w : World) : Calls Tryz.prog 143 #[.string s, .int .i64 10, .int .i64 31] w fun e w' => e = .returned (Lib.uintTupleM 202 2147483647 (Lib.parseUintB 31 s.data.toList)) ∧ (w' = w ∨ w' = Lib.bytesWorld w 5 s) := by
 by_cases h0 : s.size = 0
 ·have hs : s = ⟨#[]⟩ := ByteArray.ext (Array.eq_empty_of_size_eq_zero h0)
  subst hs
  exact (pu31_empty w).mono fun e w' ⟨he, hw⟩ => ⟨he, .inl hw⟩
 ·have hne : s.data.toList ≠ [] := fun h => h0 (by rw [Lib.size_eq, h]; rfl)
  refine (pu31_in s h0 hmax w).mono fun e w' ⟨he, hw⟩ => ⟨?_, .inr hw⟩
  rw [he, Lib.parseUintB, if_neg hne, show (2 : Nat) ^ 31 - 1 = 2147483647 from by decide]
theorem pu31_ok (s : ByteArray) (hmax : s.size ≤ 9223372036854775806) (u : Nat) (h : Lib.parseUintB 31 s.data.toList = .ok u) (w : World) :
  Calls Tryz.prog 120 #[.string s, .int .i64 10, .int .i64 31] w fun e w' => e = .returned (.tuple #[.int .u64 u, .nilIface]) ∧ (w' = w ∨ w' = Lib.bytesWorld w 5 s) := by
 have hI := pu31_any s hmax w
 rw [h] at hI
 have hI : Calls Tryz.prog 143 #[.string s, .int .i64 10, .int .i64 31] w fun e w' => e = .returned (.tuple #[.int .u64 u, .nilIface]) ∧ (w' = w ∨ w' = Lib.bytesWorld w 5 s) := hI
 clear h
 go_enter Tryz.func120, Tryz.ntmps120
 go_wp2_with (refine hI.mono ?_; rintro e V ⟨rfl, hW⟩)
 go_wp2
 go_ret2
 exact ⟨rfl, hW⟩
theorem pu31_syntax (s : ByteArray) (hlim : s.size ≤ 281474976710656) (h : Lib.parseUintB 31 s.data.toList = Lib.parseUintB 31 []) (ev : Value) (w : World) (hv : w.cell? ⟨6, 0, none⟩ = some ev) (hev : ev = .nilIface ∨ ∃ te pe, ev = .iface te pe) :
  Calls Tryz.prog 120 #[.string s, .int .i64 10, .int .i64 31] w fun e w' => ∃ N, e = .returned (.tuple #[.int .u64 0, .iface 204 (.pointer (some ⟨N, 0, none⟩))]) ∧ Below w.heap.size w w' := by
 have hG : 6 < w.heap.size := Lib.lt_of_cell hv
 have hI := pu31_any s (by omega) w
 rw [h] at hI
 have hI : Calls Tryz.prog 143 #[.string s, .int .i64 10, .int .i64 31] w fun e w' => e = .returned (.tuple #[.int .u64 0, .iface 202 (.int .i64 2)]) ∧ (w' = w ∨ w' = Lib.bytesWorld w 5 s) := hI
 clear h
 go_enter Tryz.func120, Tryz.ntmps120
 go_wp2_with (refine hI.mono ?_)
 rintro e V ⟨rfl, hW⟩
 have hb1 : Below w.heap.size w V := by
  rcases hW with rfl | rfl
  ·exact Below.refl _ _
  ·exact Lib.bytesWorld_below _ _ _
 have hv1 : V.cell? ⟨6, 0, none⟩ = some ev := (hb1.cell (show (⟨6, 0, none⟩ : Addr).block < w.heap.size from hG)).trans hv
 clear hW
 go_wp2_with (refine (Tryz.strconv_toError_syntax ⟨#[80, 97, 114, 115, 101, 85, 105, 110, 116]⟩ s 10 31 ev _ hlim ?_ hev).mono ?_)
 ·exact hv1
 rintro e V2 ⟨N, rfl, h1, h2, h3⟩
 go_wp2
 go_ret2
 exact ⟨N, rfl, hb1.trans (h3.mono hb1.size)⟩
theorem pu31_range (s : ByteArray) (hlim : s.size ≤ 281474976710656) (h : Lib.parseUintB 31 s.data.toList = .range) (ev : Value) (w : World) (hv : w.cell? ⟨7, 0, none⟩ = some ev) (hev : ev = .nilIface ∨ ∃ te pe, ev = .iface te pe) :
  Calls Tryz.prog 120 #[.string s, .int .i64 10, .int .i64 31] w fun e w' => ∃ N, e = .returned (.tuple #[.int .u64 2147483647, .iface 204 (.pointer (some ⟨N, 0, none⟩))]) ∧ Below w.heap.size w w' := by
 have hG : 7 < w.heap.size := Lib.lt_of_cell hv
 have hI := pu31_any s (by omega) w
 rw [h] at hI
 have hI : Calls Tryz.prog 143 #[.string s, .int .i64 10, .int .i64 31] w fun e w' => e = .returned (.tuple #[.int .u64 2147483647, .iface 202 (.int .i64 1)]) ∧ (w' = w ∨ w' = Lib.bytesWorld w 5 s) := hI
 clear h
 go_enter Tryz.func120, Tryz.ntmps120
 go_wp2_with (refine hI.mono ?_)
 rintro e V ⟨rfl, hW⟩
 have hb1 : Below w.heap.size w V := by
  rcases hW with rfl | rfl
  ·exact Below.refl _ _
  ·exact Lib.bytesWorld_below _ _ _
 have hv1 : V.cell? ⟨7, 0, none⟩ = some ev := (hb1.cell (show (⟨7, 0, none⟩ : Addr).block < w.heap.size from hG)).trans hv
 clear hW
 go_wp2_with (refine (Tryz.strconv_toError_range ⟨#[80, 97, 114, 115, 101, 85, 105, 110, 116]⟩ s 10 31 ev _ hlim ?_ hev).mono ?_)
 ·exact hv1
 rintro e V2 ⟨N, rfl, h1, h2, h3⟩
 go_wp2
 go_ret2
 exact ⟨N, rfl, hb1.trans (h3.mono hb1.size)⟩
def pvB (B : Nat) (l : List UInt8) : Int := match Lib.parseUintB B l with
 | .ok u => u
 | .range => ((2 ^ B - 1 : Nat) : Int)
 | _ => 0
def pkB (B : Nat) (l : List UInt8) : Bool := match Lib.parseUintB B l with
 | .ok _ => true
 | _ => false
abbrev PuIs (B : Nat) (l : List UInt8) : Prop := FnIs Tryz.prog 120 [.d (strD l), .int .i64 10, .int .i64 B] [] (.tup (.acons (.int .u64 (pvB B l)) (.acons (erA (pkB B l)) .anil))) []
theorem puB_of (B : Nat) (l : List UInt8)
  (h1 : ∀ (w : World) (u : Nat), Lib.parseUintB B l = .ok u → Calls Tryz.prog 120 #[.string (mkS l), .int .i64 10, .int .i64 B] w fun e w' => e = .returned (.tuple #[.int .u64 u, .nilIface]) ∧ (w' = w ∨ w' = Lib.bytesWorld w 5 (mkS l)))
  (h2 : ∀ (w : World) (ev : Value), Lib.parseUintB B l = .range → w.cell? ⟨7, 0, none⟩ = some ev → (ev = .nilIface ∨ ∃ te pe, ev = .iface te pe) → Calls Tryz.prog 120 #[.string (mkS l), .int .i64 10, .int .i64 B] w fun e w' => ∃ N, e = .returned (.tuple #[.int .u64 (2 ^ B - 1 : Nat), .iface 204 (.pointer (some ⟨N, 0, none⟩))]) ∧ Below w.heap.size w w')
  (h3 : ∀ (w : World) (ev : Value), Lib.parseUintB B l = Lib.parseUintB B [] → w.cell? ⟨6, 0, none⟩ = some ev → (ev = .nilIface ∨ ∃ te pe, ev = .iface te pe) → Calls Tryz.prog 120 #[.string (mkS l), .int .i64 10, .int .i64 B] w fun e w' => ∃ N, e = .returned (.tuple #[.int .u64 0, .iface 204 (.pointer (some ⟨N, 0, none⟩))]) ∧ Below w.heap.size w w') : PuIs B l := by
 refine .of_calls (fun G => ⟨trivial, by unfold erA; cases pkB B l <;> trivial, trivial⟩) ⟨_, Tryz.func120, by kernel_rfl, by kernel_rfl⟩ fun σ w X vs _ ha hg => ?_
 rw [ha.three]
 cases h : Lib.parseUintB B l
 case ok v =>
  refine (h1 w v h).mono ?_
  rintro e w' ⟨rfl, hw⟩
  refine ⟨_, rfl, ?_, by simp only [pvB, pkB, erA, h, cond_true]; exact relV_sc2 rfl rfl⟩
  rcases hw with rfl | rfl
  ·exact Below.refl _ _
  ·exact below_bytes _ _ _
 case range =>
  obtain ⟨ev, g1, g2⟩ := glob_err hg 7 (.inr rfl)
  refine (h2 w ev h g1 g2).mono ?_
  rintro e w' ⟨N, rfl, hb⟩
  exact ⟨_, rfl, hb, by simp only [pvB, pkB, erA, h, cond_false]; exact relV_er rfl⟩
 next =>
  obtain ⟨ev, g1, g2⟩ := glob_err hg 6 (.inl rfl)
  refine (h3 w ev h g1 g2).mono ?_
  rintro e w' ⟨N, rfl, hb⟩
  exact ⟨_, rfl, hb, by simp only [pvB, pkB, erA, h, cond_false]; exact relV_er rfl⟩
theorem pu31_is {l : List UInt8} (hl : l.length ≤ 281474976710656) : PuIs 31 l := by
 have hd := mkS_data l
 have hsz : (mkS l).size ≤ 281474976710656 := by rw [mkS_size]; exact hl
 exact puB_of 31 l (fun w u h => pu31_ok (mkS l) (by omega) u (by rw [hd]; exact h) w) (fun w ev h g1 g2 => pu31_range (mkS l) hsz (by rw [hd]; exact h) ev w g1 g2) (fun w ev h g1 g2 => pu31_syntax (mkS l) hsz (by rw [hd]; exact h) ev w g1 g2)
theorem pu64_is {l : List UInt8} (hl : l.length ≤ 281474976710656) : PuIs 64 l := by
 have hd := mkS_data l
 have hsz : (mkS l).size ≤ 281474976710656 := by rw [mkS_size]; exact hl
 exact puB_of 64 l (fun w u h => Tryz.strconv_ParseUint_10_at64_ok (mkS l) (by omega) u (by rw [hd]; exact h) w) (fun w ev h g1 g2 => (Tryz.strconv_ParseUint_10_at64_range (mkS l) hsz (by rw [hd]; exact h) ev w g1 g2).mono fun e w' ⟨N, he, _, _, hb⟩ => ⟨N, he, hb⟩) (fun w ev h g1 g2 => (Tryz.strconv_ParseUint_10_at64_syntax (mkS l) hsz (by rw [hd]; exact h) ev w g1 g2).mono fun e w' ⟨N, he, _, _, hb⟩ => ⟨N, he, hb⟩)
theorem pu8_is {l : List UInt8} (hl : l.length ≤ 281474976710656) : PuIs 8 l := by
 have hd := mkS_data l
 have hsz : (mkS l).size ≤ 281474976710656 := by rw [mkS_size]; exact hl
 exact puB_of 8 l (fun w u h => Tryz.strconv_ParseUint_10_at8_ok (mkS l) (by omega) u (by rw [hd]; exact h) w) (fun w ev h g1 g2 => (Tryz.strconv_ParseUint_10_at8_range (mkS l) hsz (by rw [hd]; exact h) ev w g1 g2).mono fun e w' ⟨N, he, _, _, hb⟩ => ⟨N, he, hb⟩) (fun w ev h g1 g2 => (Tryz.strconv_ParseUint_10_at8_syntax (mkS l) hsz (by rw [hd]; exact h) ev w g1 g2).mono fun e w' ⟨N, he, _, _, hb⟩ => ⟨N, he, hb⟩)
end Go.Proofs.YthiijfbcfoifnaaGreatDoor
namespace Go.Proofs.YthiijfbcfoifnaaGreatDoor
open Go.Eng Go.Plain
set_option maxHeartbeats 4000000
set_option maxRecDepth 20000
attribute [local irreducible] WC RegS RegD SeqQ BlkQ ScoQ RegK CutK Sat SatN FnIs LoopQ StepIs OpIs
abbrev rdB (ws : List (List UInt8)) (bad : Bool) : Row := .box 149 (.d (.cons (.arr 1 strD ws) (.cons (bo bad) .nil)))
def nx (ws : List (List UInt8)) (bad : Bool) : List UInt8 × List (List UInt8) × Bool := match ws with
 | [] => ([], [], true)
 | w :: r => (w, r, bad)
theorem next_is (ws : List (List UInt8)) (bad : Bool) : FnIs Tryz.prog 89 [.ptr 0 []] [(0, rdB ws bad)] (.d (strD (nx ws bad).1)) [(0, rdB (nx ws bad).2.1 (nx ws bad).2.2)] := by
 refine fnIs_of tab_ok Tryz.func89 rfl rfl rfl ?_
 cases ws with
 | nil =>
  refine sR ?_;refine rC ?_;refine nQ ?_;refine sR ?_;iterate 3 refine rC ?_
  refine rQ iB ?_;refine rQ iE ?_;refine rC ?_;refine nS ?_;refine wV ?_;refine sR ?_;iterate 3 refine rC ?_
  refine rX ?_;refine nR ?_;refine rC ?_;refine nS ?_;refine wc_ret ?_;refine seq_r ?_
  exact ⟨trivial, [], .of rfl rfl rfl rfl rfl ⟨⟨_, rfl, AVLe.of_eq rfl⟩, rfl, trivial⟩ ⟨⟨rfl, rfl, _, rfl, .refl _⟩, trivial⟩⟩
 | cons w r =>
  have hz : decide (((w :: r).length : Int) = 0) = false := dF (by simp; omega)
  have g0 : (w :: r)[((0 : Int)).toNat]? = some w := rfl
  refine sR ?_;refine rC ?_;refine nQ ?_;refine sR ?_;iterate 3 refine rC ?_
  refine rQ iB ?_;refine rQ iE ?_;refine rC ?_;refine nS ?_;refine wG ?_;refine kS ?_;refine sR ?_;iterate 3 refine rC ?_
  refine rQ iB ?_;refine rQ iA ?_;refine rQ iL ?_;refine rC ?_;refine nR ?_;iterate 4 refine rC ?_
  refine rQ iB ?_;refine rQ (slice_from (m := 1) tab_ok rfl rfl rfl rfl rfl (Nat.succ_le_succ (Nat.zero_le _))) ?_;iterate 2 refine rC ?_
  refine rX ?_;refine nR ?_;iterate 2 refine rC ?_
  refine nS ?_;refine wc_ret ?_
  exact ⟨trivial, [], .of rfl rfl rfl rfl rfl ⟨⟨_, rfl, AVLe.of_eq rfl⟩, rfl, trivial⟩ ⟨⟨rfl, rfl, _, rfl, .refl _⟩, trivial⟩⟩
abbrev wd (v : List UInt8) (ws : List (List UInt8)) (bad : Bool) : Bool := if (nx ws bad).1 = v then (nx ws bad).2.2 else true
theorem word_is (v : List UInt8) (ws : List (List UInt8)) (bad : Bool) : FnIs Tryz.prog 83 [.ptr 0 [], .d (strD v)] [(0, rdB ws bad)] (.tup .anil) [(0, rdB (nx ws bad).2.1 (wd v ws bad))] := by
 have hn := next_is ws bad
 unfold wd
 obtain ⟨⟨w, r, b⟩, hw⟩ : ∃ x, nx ws bad = x := ⟨_, rfl⟩
 rw [hw] at hn ⊢
 simp only at hn ⊢
 refine fnIs_of tab_ok Tryz.func83 rfl rfl rfl ?_
 by_cases h : w = v
 ·have d : (!decide (w = v)) = false := by rw [dT h]; rfl
  rw [if_pos h]
  refine sR ?_;refine rC ?_;refine reg_new2 (call_h [(0, some 0)] hn rfl rfl rfl (arg_ptr rfl rfl arg_nil) ⟨⟨rfl, rfl, _, _, rfl, rfl, .refl _⟩, trivial⟩ rfl rfl (.inl rfl) rfl rfl) rfl ?_
  refine rC ?_;refine rQ (neq_s (a := w) (b := v) tab_ok rfl rfl rfl) ?_;refine nS ?_;refine wF ?_;refine wc_skip ?_
  exact ⟨trivial, [], .of rfl rfl rfl rfl rfl ⟨⟨_, rfl, AVLe.of_eq rfl⟩, rfl, trivial⟩ ⟨⟨rfl, rfl, _, rfl, .refl _⟩, trivial⟩⟩
 ·have d : (!decide (w = v)) = true := by rw [dF h]; rfl
  rw [if_neg h]
  refine sR ?_;refine rC ?_;refine reg_new2 (call_h [(0, some 0)] hn rfl rfl rfl (arg_ptr rfl rfl arg_nil) ⟨⟨rfl, rfl, _, _, rfl, rfl, .refl _⟩, trivial⟩ rfl rfl (.inl rfl) rfl rfl) rfl ?_
  refine rC ?_;refine rQ (neq_s (a := w) (b := v) tab_ok rfl rfl rfl) ?_;refine nS ?_;refine wT ?_;refine wc_region ?_;iterate 3 refine rC ?_
  refine rX ?_;refine reg_nil ?_
  exact ⟨trivial, [], .of rfl rfl rfl rfl rfl ⟨⟨_, rfl, AVLe.of_eq rfl⟩, rfl, trivial⟩ ⟨⟨rfl, rfl, _, rfl, .refl _⟩, trivial⟩⟩
theorem isend_is (ws : List (List UInt8)) (bad : Bool) : FnIs Tryz.prog 87 [.ptr 0 []] [(0, rdB ws bad)] (.bool (!bad && decide (ws = []))) [(0, rdB ws bad)] := by
 have hd : decide ((ws.length : Int) = 0) = decide (ws = []) := by
  cases ws with
  | nil => rfl
  | cons w r => simp; omega
 refine fnIs_of tab_ok Tryz.func87 rfl rfl rfl ?_
 cases bad with
 | true =>
  refine sR ?_;refine rC ?_;refine nR ?_;iterate 3 refine rC ?_
  refine rQ iB ?_;iterate 2 refine rC ?_
  iterate 6 refine rT ?_
  refine rQ iG ?_;refine rC ?_;refine nS ?_;refine wc_ret ?_
  exact ⟨trivial, [], .of rfl rfl rfl rfl rfl ⟨⟨_, rfl, AVLe.of_eq rfl⟩, rfl, trivial⟩ ⟨⟨rfl, rfl, _, rfl, .refl _⟩, trivial⟩⟩
 | false =>
  refine sR ?_;refine rC ?_;refine nR ?_;iterate 3 refine rC ?_
  refine rQ iB ?_;iterate 2 refine rC ?_
  refine rP ?_;refine rC ?_;refine rP ?_;refine rC ?_;refine rP ?_;refine rC ?_;refine rP ?_;refine rQ iB ?_;refine rP ?_;refine rQ iE ?_;refine rP ?_;refine rC ?_
  refine rQ iU ?_;refine rC ?_;refine nS ?_;refine wc_ret ?_
  exact ⟨trivial, [], .of rfl rfl rfl rfl rfl ⟨⟨_, rfl, AVLe.of_eq (by rw [hd]; rfl)⟩, rfl, trivial⟩ ⟨⟨rfl, rfl, _, rfl, .refl _⟩, trivial⟩⟩
def nmb (B : Nat) (ws : List (List UInt8)) (bad : Bool) : Nat × List (List UInt8) × Bool := match numS B (nx ws bad).1 with
 | some n => (n, (nx ws bad).2.1, (nx ws bad).2.2)
 | none => (0, (nx ws bad).2.1, true)
theorem nx_len {ws : List (List UInt8)} {bad : Bool} {n : Nat} (h : ∀ w ∈ ws, w.length ≤ n) : (nx ws bad).1.length ≤ n ∧ ∀ w ∈ (nx ws bad).2.1, w.length ≤ n := by
 cases ws with
 | nil => exact ⟨Nat.zero_le _, fun w hw => by simp [nx] at hw⟩
 | cons w r => exact ⟨h w (by simp), fun x hx => h x (by simp [show x ∈ r from hx])⟩
theorem numberR_is (B : Nat) (hB : B ≤ 64) (ws : List (List UInt8)) (bad : Bool) (hp : PuIs B (nx ws bad).1) : FnIs Tryz.prog 85 [.ptr 0 [], .int .i64 B] [(0, rdB ws bad)] (.int .u64 (nmb B ws bad).1) [(0, rdB (nmb B ws bad).2.1 (nmb B ws bad).2.2)] := by
 have hn := next_is ws bad
 have hpu := hp
 unfold PuIs at hpu
 unfold nmb
 obtain ⟨⟨w, r, b⟩, hw⟩ : ∃ x, nx ws bad = x := ⟨_, rfl⟩
 rw [hw] at hn hpu ⊢
 simp only at hn hpu ⊢
 refine fnIs_of tab_ok Tryz.func85 rfl rfl rfl ?_
 by_cases hk : ∃ u, Lib.parseUintB B w = .ok u
 ·obtain ⟨u, hu⟩ := hk
  have hu64 : u < 18446744073709551616 := by
   have h1 := Lib.parseUintB_le hu
   have h2 : 2 ^ B ≤ 2 ^ 64 := Nat.pow_le_pow_right (by decide) hB
   have h3 : (2 : Nat) ^ 64 = 18446744073709551616 := by decide
   omega
  have hfu := fu_is u hu64
  rw [show pvB B w = u by simp only [pvB, hu], show pkB B w = true by simp only [pkB, hu]] at hpu
  by_cases hd : Lib.decDigits u = w
  ·have d : (!decide (Lib.decDigits u = w)) = false := by rw [dT hd]; rfl
   rw [show numS B w = some u by simp only [numS, hu, if_pos hd]]
   refine sR ?_;refine rC ?_;refine nR ?_;refine rC ?_;refine reg_new2 (call_h [(0, some 0)] hn rfl rfl rfl (arg_ptr rfl rfl arg_nil) ⟨⟨rfl, rfl, _, _, rfl, rfl, .refl _⟩, trivial⟩ rfl rfl (.inl rfl) rfl rfl) rfl ?_
   refine rC ?_;refine nR ?_;iterate 2 refine rC ?_
   refine rQ (call_r hpu rfl rfl (arg_e (arg_e (arg_e arg_nil))) (.inl rfl) (fun _ => rfl)) ?_;iterate 5 refine rC ?_
   refine nQ ?_;refine sR ?_;refine rC ?_;refine rQ (neq_nilI Tryz.underlying88 rfl) ?_;refine rC ?_;refine rP ?_;refine rC ?_;refine rP ?_;refine rQ (call_r hfu rfl rfl (arg_e (arg_e arg_nil)) (.inl rfl) (fun _ => rfl)) ?_
   refine rP ?_;refine rC ?_;refine rP ?_;refine rQ (neq_s (a := Lib.decDigits u) (b := w) tab_ok rfl rfl rfl) ?_;refine rQ iG ?_;refine nS ?_;refine wF ?_;refine kS ?_
   refine sR ?_;iterate 2 refine rC ?_
   refine nS ?_;refine wc_ret ?_
   exact ⟨trivial, [], .of rfl rfl rfl rfl rfl ⟨⟨_, rfl, AVLe.of_eq rfl⟩, rfl, trivial⟩ ⟨⟨rfl, rfl, _, rfl, .refl _⟩, trivial⟩⟩
  ·have d : (!decide (Lib.decDigits u = w)) = true := by rw [dF hd]; rfl
   rw [show numS B w = none by simp only [numS, hu, if_neg hd]]
   refine sR ?_;refine rC ?_;refine nR ?_;refine rC ?_;refine reg_new2 (call_h [(0, some 0)] hn rfl rfl rfl (arg_ptr rfl rfl arg_nil) ⟨⟨rfl, rfl, _, _, rfl, rfl, .refl _⟩, trivial⟩ rfl rfl (.inl rfl) rfl rfl) rfl ?_
   refine rC ?_;refine nR ?_;iterate 2 refine rC ?_
   refine rQ (call_r hpu rfl rfl (arg_e (arg_e (arg_e arg_nil))) (.inl rfl) (fun _ => rfl)) ?_;iterate 5 refine rC ?_
   refine nQ ?_;refine sR ?_;refine rC ?_;refine rQ (neq_nilI Tryz.underlying88 rfl) ?_;refine rC ?_;refine rP ?_;refine rC ?_;refine rP ?_;refine rQ (call_r hfu rfl rfl (arg_e (arg_e arg_nil)) (.inl rfl) (fun _ => rfl)) ?_
   refine rP ?_;refine rC ?_;refine rP ?_;refine rQ (neq_s (a := Lib.decDigits u) (b := w) tab_ok rfl rfl rfl) ?_;refine rQ iG ?_;refine nS ?_;refine wT ?_;refine sR ?_
   iterate 3 refine rC ?_
   refine rX ?_;refine nR ?_;refine rC ?_;refine nS ?_;refine wc_ret ?_;refine seq_r ?_
   exact ⟨trivial, [], .of rfl rfl rfl rfl rfl ⟨⟨_, rfl, AVLe.of_eq rfl⟩, rfl, trivial⟩ ⟨⟨rfl, rfl, _, rfl, .refl _⟩, trivial⟩⟩
 ·have hnn : numS B w = none := by
   unfold numS
   split
   ·rename_i u hu; exact absurd ⟨u, hu⟩ hk
   ·rfl
  have hkf : pkB B w = false := by
   unfold pkB
   split
   ·rename_i u hu; exact absurd ⟨u, hu⟩ hk
   ·rfl
  rw [hkf] at hpu
  rw [hnn]
  refine sR ?_;refine rC ?_;refine nR ?_;refine rC ?_;refine reg_new2 (call_h [(0, some 0)] hn rfl rfl rfl (arg_ptr rfl rfl arg_nil) ⟨⟨rfl, rfl, _, _, rfl, rfl, .refl _⟩, trivial⟩ rfl rfl (.inl rfl) rfl rfl) rfl ?_
  refine rC ?_;refine nR ?_;iterate 2 refine rC ?_
  refine rQ (call_r hpu rfl rfl (arg_e (arg_e (arg_e arg_nil))) (.inl rfl) (fun _ => rfl)) ?_;iterate 5 refine rC ?_
  refine nQ ?_;refine sR ?_;refine rC ?_;refine rQ (neq_er Tryz.underlying88 rfl) ?_;refine rC ?_;iterate 4 refine rT ?_
  refine rQ iU ?_;refine nS ?_;refine wV ?_;refine sR ?_;iterate 3 refine rC ?_
  refine rX ?_;refine nR ?_;refine rC ?_;refine nS ?_;refine wc_ret ?_;refine seq_r ?_
  exact ⟨trivial, [], .of rfl rfl rfl rfl rfl ⟨⟨_, rfl, AVLe.of_eq rfl⟩, rfl, trivial⟩ ⟨⟨rfl, rfl, _, rfl, .refl _⟩, trivial⟩⟩
theorem nmb_lt {B : Nat} {ws : List (List UInt8)} {bad : Bool} : (nmb B ws bad).1 < 2 ^ B := by
 unfold nmb
 split
 ·rename_i n h; exact numS_lt h
 ·exact Nat.two_pow_pos B
theorem count_isR (ws : List (List UInt8)) (bad : Bool) (hl : ∀ w ∈ ws, w.length ≤ 1048576) : FnIs Tryz.prog 84 [.ptr 0 []] [(0, rdB ws bad)] (.int .i64 (nmb 31 ws bad).1) [(0, rdB (nmb 31 ws bad).2.1 (nmb 31 ws bad).2.2)] := by
 have hn := numberR_is 31 (by decide) ws bad (pu31_is (by have := (nx_len (bad := bad) hl).1; omega))
 have hw : IntKind.i64.wrap ((nmb 31 ws bad).1 : Int) = ((nmb 31 ws bad).1 : Int) := wrap_i64 (by omega) (by have := nmb_lt (B := 31) (ws := ws) (bad := bad); omega)
 refine fnIs_of tab_ok Tryz.func84 rfl rfl rfl ?_;refine sR ?_;refine rC ?_;refine nR ?_;refine rC ?_;refine reg_new2 (call_h [(0, some 0)] hn rfl rfl rfl (arg_ptr rfl rfl (arg_e arg_nil)) ⟨⟨rfl, rfl, _, _, rfl, rfl, .refl _⟩, trivial⟩ rfl rfl (.inl rfl) rfl rfl) rfl ?_
 refine rQ (conv_int (m := ((nmb 31 ws bad).1 : Int)) tab_ok rfl rfl rfl hw) ?_;refine rC ?_;refine nS ?_;refine wc_ret ?_
 exact ⟨trivial, [], .of rfl rfl rfl rfl rfl ⟨⟨_, rfl, AVLe.of_eq rfl⟩, rfl, trivial⟩ ⟨⟨rfl, rfl, _, rfl, .refl _⟩, trivial⟩⟩
def byt (ws : List (List UInt8)) (bad : Bool) : List UInt8 × List (List UInt8) × Bool := match unhexP (nx ws bad).1 with
 | some d => (d, (nx ws bad).2.1, (nx ws bad).2.2)
 | none => ([], (nx ws bad).2.1, true)
abbrev BytIs (s : List UInt8) (r : List (List UInt8)) (b : Bool) (ws : List (List UInt8)) (bad : Bool) (o : Option (List UInt8)) : Prop := FnIs Tryz.prog 86 [.ptr 0 []] [(0, rdB ws bad)] (.d (encB (o.getD []))) [(0, rdB r (if o = none then true else b))]
theorem bytes_minus (s : List UInt8) (r : List (List UInt8)) (b : Bool) (ws : List (List UInt8)) (bad : Bool) (hx : nx ws bad = (s, r, b)) (h45 : s = [45]) : BytIs s r b ws bad (some []) := by
 have hn := next_is ws bad
 rw [hx] at hn
 simp only at hn
 have h0 : decide (s = [45]) = true := dT h45
 unfold BytIs
 rw [if_neg (by simp)]
 refine fnIs_of tab_ok Tryz.func86 rfl rfl rfl ?_;refine sR ?_;refine rC ?_;refine nR ?_;refine rC ?_;refine reg_new2 (call_h [(0, some 0)] hn rfl rfl rfl (arg_ptr rfl rfl arg_nil) ⟨⟨rfl, rfl, _, _, rfl, rfl, .refl _⟩, trivial⟩ rfl rfl (.inl rfl) rfl rfl) rfl ?_
 refine rC ?_;refine nQ ?_;refine sR ?_;refine rC ?_;refine rQ (eql_s (a := s) (b := [45]) tab_ok rfl rfl rfl) ?_;refine nS ?_;refine wT ?_;refine sR ?_;refine rC ?_
 refine nS ?_;refine wc_ret ?_;refine seq_r ?_
 exact ⟨trivial, [], .of rfl rfl rfl rfl rfl ⟨⟨_, rfl, nil_arr _ _⟩, rfl, trivial⟩ ⟨⟨rfl, rfl, _, rfl, .refl _⟩, trivial⟩⟩
theorem bytes_loop (s : List UInt8) (r : List (List UInt8)) (b : Bool) (ws : List (List UInt8)) (bad : Bool) (hx : nx ws bad = (s, r, b)) (h45 : s ≠ [45]) (hL : s.length ≤ 1048576) :
  (s = [] → FnIs Tryz.prog 86 [.ptr 0 []] [(0, rdB ws bad)] (.own 64 0 (s.length / 2) 1 none) [(0, rdB r true), (64, .ds 5 1 true encU8 (List.replicate (s.length / 2) (0 : Int)))]) ∧ (s ≠ [] → unhexP s = none → BytIs s r b ws bad none) ∧ ((s.length % 2 = 0 ∧ s ≠ [] ∧ ∀ c ∈ s, 0 ≤ Lib.indexByte hexD c) → FnIs Tryz.prog 86 [.ptr 0 []] [(0, rdB ws bad)] (.own 64 0 (s.length / 2) 1 none) [(0, rdB r b), (64, .ds 5 1 true encU8 (pairsV s))]) := by
 have hn := next_is ws bad
 rw [hx] at hn
 simp only at hn
 have h0 : decide (s = [45]) = false := dF h45
 have hwl : IntKind.i64.wrap ((s.length / 2 : Nat) : Int) = ((s.length / 2 : Nat) : Int) := wrap_i64 (by omega) (by omega)
 have hN : s.length / 2 ≤ 1048576 := by omega
 refine ⟨?_, ?_, ?_⟩
 ·intro hs
  have hl0 : s.length = 0 := by rw [hs]; rfl
  have hz : decide (((s.length / 2 : Nat) : Int) = 0) = true := dT (by omega)
  refine fnIs_of tab_ok Tryz.func86 rfl rfl rfl ?_;refine sR ?_;refine rC ?_;refine nR ?_;refine rC ?_;refine reg_new2 (call_h [(0, some 0)] hn rfl rfl rfl (arg_ptr rfl rfl arg_nil) ⟨⟨rfl, rfl, _, _, rfl, rfl, .refl _⟩, trivial⟩ rfl rfl (.inl rfl) rfl rfl) rfl ?_
  refine rC ?_;refine nQ ?_;refine sR ?_;refine rC ?_;refine rQ (eql_s (a := s) (b := [45]) tab_ok rfl rfl rfl) ?_;refine nS ?_;refine wF ?_;refine kS ?_;refine sR ?_
  refine rC ?_;refine rQ (len_s tab_ok rfl rfl) ?_;refine rQ (quo_nat (a := s.length) (b := 2) tab_ok rfl rfl rfl (by decide) hwl) ?_;refine reg_new (make_full (enc := encU8) (s := 1) (N := s.length / 2) tab_ok 0 rfl rfl rfl rfl rfl rfl rfl hN rfl) rfl ?_
  refine rC ?_;refine nQ ?_;refine sR ?_;refine rC ?_;refine reg_new (range_str tab_ok rfl rfl) rfl ?_;refine nS ?_;refine wc_block ?_;refine wc_once ?_;refine sR ?_
  refine rQ (next_end rfl rfl (by omega)) ?_;refine rC ?_;refine nQ ?_;refine wG ?_;refine wc_exit ?_;refine seq_x ?_;refine loop_x ?_;refine blk_x ?_;refine seq_n ?_
  refine sR ?_;iterate 4 refine rC ?_
  refine rQ iB ?_;refine rC ?_
  cases b with
  | false =>
   refine rP ?_;refine rC ?_;refine rP ?_;refine rQ (len_own tab_ok rfl rfl) ?_;refine rP ?_;refine rC ?_;refine rQ iG ?_;iterate 2 refine rC ?_
   refine rX ?_;refine nR ?_;iterate 2 refine rC ?_
   refine nS ?_;refine wc_ret ?_
   exact ⟨trivial, [(64, some 136)], .of rfl rfl rfl rfl rfl ⟨⟨_, rfl, AVLe.of_eq rfl⟩, rfl, trivial⟩ ⟨⟨rfl, rfl, _, rfl, RowLe.of_eq (by rw [hz]; rfl)⟩, ⟨rfl, rfl, _, rfl, .refl _⟩, trivial⟩⟩
  | true =>
   iterate 3 refine rT ?_
   refine rQ iU ?_;iterate 2 refine rC ?_
   refine rX ?_;refine nR ?_;iterate 2 refine rC ?_
   refine nS ?_;refine wc_ret ?_
   exact ⟨trivial, [(64, some 136)], .of rfl rfl rfl rfl rfl ⟨⟨_, rfl, AVLe.of_eq rfl⟩, rfl, trivial⟩ ⟨⟨rfl, rfl, _, rfl, .refl _⟩, ⟨rfl, rfl, _, rfl, .refl _⟩, trivial⟩⟩
 ·intro hs hnone
  unfold BytIs
  rw [if_pos rfl]
  refine fnIs_of tab_ok Tryz.func86 rfl rfl rfl ?_;refine sR ?_;refine rC ?_;refine nR ?_;refine rC ?_;refine reg_new2 (call_h [(0, some 0)] hn rfl rfl rfl (arg_ptr rfl rfl arg_nil) ⟨⟨rfl, rfl, _, _, rfl, rfl, .refl _⟩, trivial⟩ rfl rfl (.inl rfl) rfl rfl) rfl ?_
  refine rC ?_;refine nQ ?_;refine sR ?_;refine rC ?_;refine rQ (eql_s (a := s) (b := [45]) tab_ok rfl rfl rfl) ?_;refine nS ?_;refine wF ?_;refine kS ?_;refine sR ?_
  refine rC ?_;refine rQ (len_s tab_ok rfl rfl) ?_;refine rQ (quo_nat (a := s.length) (b := 2) tab_ok rfl rfl rfl (by decide) hwl) ?_;refine reg_new (make_full (enc := encU8) (s := 1) (N := s.length / 2) tab_ok 0 rfl rfl rfl rfl rfl rfl rfl hN rfl) rfl ?_
  refine rC ?_;refine nQ ?_;refine sR ?_;refine rC ?_;refine reg_new (range_str tab_ok rfl rfl) rfl ?_;refine nS ?_;refine wc_block ?_
  by_cases hodd : s.length % 2 = 1
  ·have hpos : 0 < s.length := List.length_pos_iff.2 hs
   obtain ⟨c, hc⟩ : ∃ c, s[0]? = some c := ⟨_, List.getElem?_eq_getElem hpos⟩
   have hib : FnIs Tryz.prog 121 [.d (strD hexD), .int .u8 c.toNat] [] (.int .i64 (Lib.indexByte hexD c)) [] := by
    have := ib_is (l := hexD) (c := (c.toNat : Int))
    rwa [show ((c.toNat : Int)).toNat.toUInt8 = c by simp] at this
   have hr : decide (((s.length % 2 : Nat) : Int) = 1) = true := dT (by omega)
   refine wc_once ?_
   by_cases hneg : Lib.indexByte hexD c < 0
   ·have hd := dT hneg
    refine sR ?_;refine reg_new (next_str rfl rfl (by omega)) rfl ?_;refine rC ?_;refine nQ ?_;refine wV ?_;refine kS ?_;refine wc_block ?_;refine sR ?_;iterate 2 refine rC ?_
    refine nR ?_;iterate 2 refine rC ?_
    refine rQ (index_s (l := s) (m := 0) tab_ok rfl rfl rfl hc) ?_;refine rQ (call_r hib rfl rfl (arg_e (arg_e arg_nil)) (.inl rfl) (fun _ => rfl)) ?_;refine rC ?_;refine nQ ?_
    refine sR ?_;iterate 3 refine rC ?_
    iterate 4 refine rS ?_
    refine rQ iT ?_;refine nS ?_;refine wV ?_;refine sR ?_;iterate 3 refine rC ?_
    refine rX ?_;refine nR ?_;refine rC ?_;refine nS ?_;refine wc_ret ?_;refine seq_r ?_;refine blk_r ?_;refine loop_r ?_;refine blk_r ?_;refine seq_r ?_
    exact ⟨trivial, [], .of rfl rfl rfl rfl rfl ⟨⟨_, rfl, nil_arr _ _⟩, rfl, trivial⟩ ⟨⟨rfl, rfl, _, rfl, .refl _⟩, trivial⟩⟩
   ·have hd : decide (Lib.indexByte hexD c < 0) = false := dF hneg
    refine sR ?_;refine reg_new (next_str rfl rfl (by omega)) rfl ?_;refine rC ?_;refine nQ ?_;refine wV ?_;refine kS ?_;refine wc_block ?_;refine sR ?_;iterate 2 refine rC ?_
    refine nR ?_;iterate 2 refine rC ?_
    refine rQ (index_s (l := s) (m := 0) tab_ok rfl rfl rfl hc) ?_;refine rQ (call_r hib rfl rfl (arg_e (arg_e arg_nil)) (.inl rfl) (fun _ => rfl)) ?_;refine rC ?_;refine nQ ?_
    refine sR ?_;iterate 3 refine rC ?_
    refine rO ?_;refine rC ?_;refine rO ?_;refine rQ (len_s tab_ok rfl rfl) ?_;refine rO ?_;refine rQ (rem_nat (a := s.length) (b := 2) tab_ok rfl rfl rfl (by decide)) ?_
    refine rO ?_;refine rC ?_;refine rQ iF ?_;refine nS ?_;refine wT ?_;refine sR ?_;iterate 3 refine rC ?_
    refine rX ?_;refine nR ?_;refine rC ?_;refine nS ?_;refine wc_ret ?_;refine seq_r ?_;refine blk_r ?_;refine loop_r ?_;refine blk_r ?_;refine seq_r ?_
    exact ⟨trivial, [], .of rfl rfl rfl rfl rfl ⟨⟨_, rfl, nil_arr _ _⟩, rfl, trivial⟩ ⟨⟨rfl, rfl, _, rfl, .refl _⟩, trivial⟩⟩
  have hm : s.length = 2 * (s.length / 2) := by omega
  obtain ⟨m, hm2⟩ : ∃ m, m = s.length / 2 := ⟨_, rfl⟩
  rw [← hm2] at hm
  have hr : decide (((s.length % 2 : Nat) : Int) = 1) = false := dF (by omega)
  refine wc_inv (fun i : Nat => ⟨[(16, .ptr 66 []), (4, .own 65 0 (s.length / 2) 1 none), (3, .d (strD s)), (0, .ptr 0 [])], [(65, some (.ds 5 1 true encU8 (uX m s i))), (66, some (.si (mkS s) i)), (0, some (rdB r b))], 72, Tryz.f86.ntmps, 64⟩) (fun i => i ≤ s.length ∧ ∀ c ∈ s.take i, 0 ≤ Lib.indexByte hexD c) (fun i => s.length - i) 0 [(65, some 136), (66, some 160)] ⟨Nat.zero_le _, by simp⟩
   (.of rfl rfl rfl rfl rfl ⟨⟨_, rfl, .refl _⟩, rfl, ⟨_, rfl, .refl _⟩, rfl, ⟨_, rfl, .refl _⟩, rfl, ⟨_, rfl, .refl _⟩, rfl, trivial⟩ ⟨⟨rfl, rfl, _, rfl, RowLe.of_eq (by rw [uX_zero, hm2]; rfl)⟩, ⟨rfl, rfl, _, rfl, .refl _⟩, ⟨rfl, rfl, _, rfl, .refl _⟩, trivial⟩) ?_
  rintro i ⟨hi, hdig⟩
  refine wc_of ?_
  by_cases hlt : i < s.length
  ·obtain ⟨c, hc⟩ : ∃ c, s[i]? = some c := ⟨_, List.getElem?_eq_getElem hlt⟩
   have hib : FnIs Tryz.prog 121 [.d (strD hexD), .int .u8 c.toNat] [] (.int .i64 (Lib.indexByte hexD c)) [] := by
    have := ib_is (l := hexD) (c := (c.toNat : Int))
    rwa [show ((c.toNat : Int)).toNat.toUInt8 = c by simp] at this
   by_cases hneg : Lib.indexByte hexD c < 0
   ·have hd := dT hneg
    refine sR ?_;refine reg_new (next_str rfl rfl (by omega)) rfl ?_;refine rC ?_;refine nQ ?_;refine wV ?_;refine kS ?_;refine wc_block ?_;refine sR ?_;iterate 2 refine rC ?_
    refine nR ?_;iterate 2 refine rC ?_
    refine rQ (index_s (l := s) (m := i) tab_ok rfl rfl rfl hc) ?_;refine rQ (call_r hib rfl rfl (arg_e (arg_e arg_nil)) (.inl rfl) (fun _ => rfl)) ?_;refine rC ?_;refine nQ ?_
    refine sR ?_;iterate 3 refine rC ?_
    iterate 4 refine rS ?_
    refine rQ iT ?_;refine nS ?_;refine wV ?_;refine sR ?_;iterate 3 refine rC ?_
    refine rX ?_;refine nR ?_;refine rC ?_;refine nS ?_;refine wc_ret ?_;refine seq_r ?_;refine blk_r ?_;refine loop_r ?_;refine blk_r ?_;refine seq_r ?_
    exact ⟨trivial, [], .of rfl rfl rfl rfl rfl ⟨⟨_, rfl, nil_arr _ _⟩, rfl, trivial⟩ ⟨⟨rfl, rfl, _, rfl, .refl _⟩, trivial⟩⟩
   ·have hd : decide (Lib.indexByte hexD c < 0) = false := dF hneg
    obtain ⟨x, hx1, hx2, hx3⟩ := uX_step hc hm
    replace hx2 : (uX m s i)[(((i / 2 : Nat) : Int)).toNat]? = some (x : Int) := by rw [Int.toNat_natCast]; exact hx2
    have hn16 := nibV_lt c
    have hwi : IntKind.i64.wrap ((i / 2 : Nat) : Int) = ((i / 2 : Nat) : Int) := wrap_i64 (by omega) (by omega)
    have hw2 : IntKind.u8.wrap (Lib.indexByte hexD c) = (nibV c : Int) := by
     rw [show Lib.indexByte hexD c = (nibV c : Int) by unfold nibV; omega]
     exact wrap_u8n (by omega)
    have hlow := decode_low (i := i) hc (hexD_low (by omega))
    refine sR ?_;refine reg_new (next_str rfl rfl (by omega)) rfl ?_;refine rC ?_;refine nQ ?_;refine wV ?_;refine kS ?_;refine wc_block ?_;refine sR ?_;iterate 2 refine rC ?_
    refine nR ?_;iterate 2 refine rC ?_
    refine rQ (index_s (l := s) (m := i) tab_ok rfl rfl rfl hc) ?_;refine rQ (call_r hib rfl rfl (arg_e (arg_e arg_nil)) (.inl rfl) (fun _ => rfl)) ?_;refine rC ?_;refine nQ ?_
    refine sR ?_;iterate 3 refine rC ?_
    refine rO ?_;refine rC ?_;refine rO ?_;refine rQ (len_s tab_ok rfl rfl) ?_;refine rO ?_;refine rQ (rem_nat (a := s.length) (b := 2) tab_ok rfl rfl rfl (by decide)) ?_
    refine rO ?_;refine rC ?_;refine rQ iF ?_;refine nS ?_;refine wF ?_;refine kS ?_;refine wc_region ?_;iterate 2 refine rC ?_
    refine rQ (quo_nat (a := i) (b := 2) tab_ok rfl rfl rfl (by decide) hwi) ?_;iterate 2 refine rC ?_
    refine rQ (quo_nat (a := i) (b := 2) tab_ok rfl rfl rfl (by decide) hwi) ?_;refine rQ (index_own tab_ok rfl rfl rfl rfl rfl (by omega) (by omega)) ?_;refine rQ (load_row tab_ok rfl rfl ⟨rfl, (x : Int), hx2, _, rfl, rfl⟩ rfl) ?_
    refine rQ (shl_4 (a := x) rfl rfl hx1) ?_;refine rC ?_;refine rQ (conv_int (m := (nibV c : Int)) tab_ok rfl rfl rfl hw2) ?_;refine rQ (or_16 (a := x) (b := nibV c) tab_ok rfl rfl hx1 hn16) ?_
    refine rQ (index_own tab_ok rfl rfl rfl rfl rfl (by omega) (by omega)) ?_;refine reg_store (store_row tab_ok rfl rfl rfl ⟨rfl, (x : Int), ((x * 16 + nibV c : Nat) : Int), hx2, ⟨rfl, rfl, rfl⟩, rfl⟩ rfl) ?_
    refine reg_nil ?_;refine blk_n ?_
    exact loop_n (i + 1) [] ⟨hlt, fun y hy => by rw [List.take_add_one, hc] at hy; rcases List.mem_append.1 hy with hy | hy; exact hdig y hy; rw [show y = c by simpa using hy]; omega⟩ (by omega) (.of rfl rfl rfl rfl rfl ⟨⟨_, rfl, .refl _⟩, rfl, ⟨_, rfl, .refl _⟩, rfl, ⟨_, rfl, .refl _⟩, rfl, ⟨_, rfl, .refl _⟩, rfl, trivial⟩ ⟨⟨rfl, rfl, _, rfl, RowLe.of_eq (congrArg (Row.ds 5 1 true encU8) hx3)⟩, ⟨rfl, rfl, _, rfl, RowLe.of_eq (by rw [hlow]; rfl)⟩, ⟨rfl, rfl, _, rfl, .refl _⟩, trivial⟩)
  ·exfalso
   have he : i = s.length := by omega
   rw [he, List.take_length] at hdig
   obtain ⟨t, h1, h2⟩ := pairs_some s (by omega) hdig
   rw [unhexP, if_neg h45, if_neg hs, h1] at hnone
   cases hnone
 ·rintro ⟨hev, hs, hall⟩
  have hpos : 0 < s.length := List.length_pos_iff.2 hs
  have hm : s.length = 2 * (s.length / 2) := by omega
  have hrep : s.length / 2 - (s.length + 1) / 2 = 0 := by omega
  obtain ⟨m, hm2⟩ : ∃ m, m = s.length / 2 := ⟨_, rfl⟩
  rw [← hm2] at hm hrep
  have hr : decide (((s.length % 2 : Nat) : Int) = 1) = false := dF (by omega)
  have hz : decide (((s.length / 2 : Nat) : Int) = 0) = false := dF (by omega)
  refine fnIs_of tab_ok Tryz.func86 rfl rfl rfl ?_;refine sR ?_;refine rC ?_;refine nR ?_;refine rC ?_;refine reg_new2 (call_h [(0, some 0)] hn rfl rfl rfl (arg_ptr rfl rfl arg_nil) ⟨⟨rfl, rfl, _, _, rfl, rfl, .refl _⟩, trivial⟩ rfl rfl (.inl rfl) rfl rfl) rfl ?_
  refine rC ?_;refine nQ ?_;refine sR ?_;refine rC ?_;refine rQ (eql_s (a := s) (b := [45]) tab_ok rfl rfl rfl) ?_;refine nS ?_;refine wF ?_;refine kS ?_;refine sR ?_
  refine rC ?_;refine rQ (len_s tab_ok rfl rfl) ?_;refine rQ (quo_nat (a := s.length) (b := 2) tab_ok rfl rfl rfl (by decide) hwl) ?_;refine reg_new (make_full (enc := encU8) (s := 1) (N := s.length / 2) tab_ok 0 rfl rfl rfl rfl rfl rfl rfl hN rfl) rfl ?_
  refine rC ?_;refine nQ ?_;refine sR ?_;refine rC ?_;refine reg_new (range_str tab_ok rfl rfl) rfl ?_;refine nS ?_;refine wc_block ?_
  refine wc_inv (fun i : Nat => ⟨[(16, .ptr 66 []), (4, .own 65 0 (s.length / 2) 1 none), (3, .d (strD s)), (0, .ptr 0 [])], [(65, some (.ds 5 1 true encU8 (uX m s i))), (66, some (.si (mkS s) i)), (0, some (rdB r b))], 72, Tryz.f86.ntmps, 64⟩) (fun i => i ≤ s.length ∧ ∀ c ∈ s.take i, 0 ≤ Lib.indexByte hexD c) (fun i => s.length - i) 0 [(65, some 136), (66, some 160)] ⟨Nat.zero_le _, by simp⟩
   (.of rfl rfl rfl rfl rfl ⟨⟨_, rfl, .refl _⟩, rfl, ⟨_, rfl, .refl _⟩, rfl, ⟨_, rfl, .refl _⟩, rfl, ⟨_, rfl, .refl _⟩, rfl, trivial⟩ ⟨⟨rfl, rfl, _, rfl, RowLe.of_eq (by rw [uX_zero, hm2]; rfl)⟩, ⟨rfl, rfl, _, rfl, .refl _⟩, ⟨rfl, rfl, _, rfl, .refl _⟩, trivial⟩) ?_
  rintro i ⟨hi, hdig⟩
  refine wc_of ?_
  by_cases hlt : i < s.length
  ·obtain ⟨c, hc⟩ : ∃ c, s[i]? = some c := ⟨_, List.getElem?_eq_getElem hlt⟩
   have hib : FnIs Tryz.prog 121 [.d (strD hexD), .int .u8 c.toNat] [] (.int .i64 (Lib.indexByte hexD c)) [] := by
    have := ib_is (l := hexD) (c := (c.toNat : Int))
    rwa [show ((c.toNat : Int)).toNat.toUInt8 = c by simp] at this
   have hneg : ¬ Lib.indexByte hexD c < 0 := by have := hall c (List.mem_of_getElem? hc); omega
   have hd : decide (Lib.indexByte hexD c < 0) = false := dF hneg
   obtain ⟨x, hx1, hx2, hx3⟩ := uX_step hc hm
   replace hx2 : (uX m s i)[(((i / 2 : Nat) : Int)).toNat]? = some (x : Int) := by rw [Int.toNat_natCast]; exact hx2
   have hn16 := nibV_lt c
   have hwi : IntKind.i64.wrap ((i / 2 : Nat) : Int) = ((i / 2 : Nat) : Int) := wrap_i64 (by omega) (by omega)
   have hw2 : IntKind.u8.wrap (Lib.indexByte hexD c) = (nibV c : Int) := by
    rw [show Lib.indexByte hexD c = (nibV c : Int) by unfold nibV; omega]
    exact wrap_u8n (by omega)
   have hlow := decode_low (i := i) hc (hexD_low (by omega))
   refine sR ?_;refine reg_new (next_str rfl rfl (by omega)) rfl ?_;refine rC ?_;refine nQ ?_;refine wV ?_;refine kS ?_;refine wc_block ?_;refine sR ?_;iterate 2 refine rC ?_
   refine nR ?_;iterate 2 refine rC ?_
   refine rQ (index_s (l := s) (m := i) tab_ok rfl rfl rfl hc) ?_;refine rQ (call_r hib rfl rfl (arg_e (arg_e arg_nil)) (.inl rfl) (fun _ => rfl)) ?_;refine rC ?_;refine nQ ?_
   refine sR ?_;iterate 3 refine rC ?_
   refine rO ?_;refine rC ?_;refine rO ?_;refine rQ (len_s tab_ok rfl rfl) ?_;refine rO ?_;refine rQ (rem_nat (a := s.length) (b := 2) tab_ok rfl rfl rfl (by decide)) ?_
   refine rO ?_;refine rC ?_;refine rQ iF ?_;refine nS ?_;refine wF ?_;refine kS ?_;refine wc_region ?_;iterate 2 refine rC ?_
   refine rQ (quo_nat (a := i) (b := 2) tab_ok rfl rfl rfl (by decide) hwi) ?_;iterate 2 refine rC ?_
   refine rQ (quo_nat (a := i) (b := 2) tab_ok rfl rfl rfl (by decide) hwi) ?_;refine rQ (index_own tab_ok rfl rfl rfl rfl rfl (by omega) (by omega)) ?_;refine rQ (load_row tab_ok rfl rfl ⟨rfl, (x : Int), hx2, _, rfl, rfl⟩ rfl) ?_
   refine rQ (shl_4 (a := x) rfl rfl hx1) ?_;refine rC ?_;refine rQ (conv_int (m := (nibV c : Int)) tab_ok rfl rfl rfl hw2) ?_;refine rQ (or_16 (a := x) (b := nibV c) tab_ok rfl rfl hx1 hn16) ?_
   refine rQ (index_own tab_ok rfl rfl rfl rfl rfl (by omega) (by omega)) ?_;refine reg_store (store_row tab_ok rfl rfl rfl ⟨rfl, (x : Int), ((x * 16 + nibV c : Nat) : Int), hx2, ⟨rfl, rfl, rfl⟩, rfl⟩ rfl) ?_
   refine reg_nil ?_;refine blk_n ?_
   exact loop_n (i + 1) [] ⟨hlt, fun y hy => by rw [List.take_add_one, hc] at hy; rcases List.mem_append.1 hy with hy | hy; exact hdig y hy; rw [show y = c by simpa using hy]; omega⟩ (by omega) (.of rfl rfl rfl rfl rfl ⟨⟨_, rfl, .refl _⟩, rfl, ⟨_, rfl, .refl _⟩, rfl, ⟨_, rfl, .refl _⟩, rfl, ⟨_, rfl, .refl _⟩, rfl, trivial⟩ ⟨⟨rfl, rfl, _, rfl, RowLe.of_eq (congrArg (Row.ds 5 1 true encU8) hx3)⟩, ⟨rfl, rfl, _, rfl, RowLe.of_eq (by rw [hlow]; rfl)⟩, ⟨rfl, rfl, _, rfl, .refl _⟩, trivial⟩)
  ·have he : i = s.length := by omega
   subst he
   cases b with
   | false =>
    refine sR ?_;refine rQ (next_end rfl rfl (by omega)) ?_;refine rC ?_;refine nQ ?_;refine wG ?_;refine wc_exit ?_;refine seq_x ?_;refine loop_x ?_;refine blk_x ?_
    refine seq_n ?_;refine sR ?_;iterate 4 refine rC ?_
    refine rQ iB ?_;refine rC ?_;refine rP ?_;refine rC ?_;refine rP ?_;refine rQ (len_own tab_ok rfl rfl) ?_;refine rP ?_;refine rC ?_;refine rQ iG ?_;iterate 2 refine rC ?_
    refine rX ?_;refine nR ?_;iterate 2 refine rC ?_
    refine nS ?_;refine wc_ret ?_
    exact ⟨trivial, [(64, some 65)], .of rfl rfl rfl rfl rfl ⟨⟨_, rfl, AVLe.of_eq rfl⟩, rfl, trivial⟩ ⟨⟨rfl, rfl, _, rfl, RowLe.of_eq (by rw [hz]; rfl)⟩, ⟨rfl, rfl, _, rfl, RowLe.of_eq (by simp only [uX, List.take_length, hrep]; simp; rfl)⟩, trivial⟩⟩
   | true =>
    refine sR ?_;refine rQ (next_end rfl rfl (by omega)) ?_;refine rC ?_;refine nQ ?_;refine wG ?_;refine wc_exit ?_;refine seq_x ?_;refine loop_x ?_;refine blk_x ?_
    refine seq_n ?_;refine sR ?_;iterate 4 refine rC ?_
    refine rQ iB ?_;refine rC ?_;iterate 3 refine rT ?_
    refine rQ iU ?_;iterate 2 refine rC ?_
    refine rX ?_;refine nR ?_;iterate 2 refine rC ?_
    refine nS ?_;refine wc_ret ?_
    exact ⟨trivial, [(64, some 65)], .of rfl rfl rfl rfl rfl ⟨⟨_, rfl, AVLe.of_eq rfl⟩, rfl, trivial⟩ ⟨⟨rfl, rfl, _, rfl, .refl _⟩, ⟨rfl, rfl, _, rfl, RowLe.of_eq (by simp only [uX, List.take_length, hrep]; simp; rfl)⟩, trivial⟩⟩
theorem bytesR_is (ws : List (List UInt8)) (bad : Bool) (hl : ∀ w ∈ ws, w.length ≤ 1048576) : FnIs Tryz.prog 86 [.ptr 0 []] [(0, rdB ws bad)] (.d (encB (byt ws bad).1)) [(0, rdB (byt ws bad).2.1 (byt ws bad).2.2)] := by
 have hL := (nx_len (bad := bad) hl).1
 unfold byt
 obtain ⟨⟨s, r, b⟩, hx⟩ : ∃ x, nx ws bad = x := ⟨_, rfl⟩
 rw [hx] at hL ⊢
 simp only at hL ⊢
 by_cases h45 : s = [45]
 ·have := bytes_minus s r b ws bad hx h45
  unfold BytIs at this
  rw [if_neg (by simp)] at this
  rw [show unhexP s = some [] by rw [h45]; rfl]
  exact this
 obtain ⟨g0, g1, g2⟩ := bytes_loop s r b ws bad hx h45 hL
 cases hu : unhexP s with
 | none =>
  by_cases hs : s = []
  ·have := (g0 hs).freeze_out (rows' := [(0, rdB r true)]) 64 _ rfl (Frz.own (by simp)) ⟨⟨rfl, _, rfl, .refl _⟩, trivial⟩
   rw [show List.replicate (s.length / 2) (0 : Int) = byI [] by rw [hs]; rfl] at this
   exact this
  ·exact g1 hs hu
 | some d =>
  have hs : s ≠ [] := fun e => by rw [unhexP, if_neg h45, if_pos e] at hu; cases hu
  have hp : pairsO s = some d := by rwa [unhexP, if_neg h45, if_neg hs] at hu
  have hev : s.length % 2 = 0 := by have := pairs_len s d hp; omega
  have hall : ∀ c ∈ s, 0 ≤ Lib.indexByte hexD c := fun c hc => by
   by_cases hneg : Lib.indexByte hexD c < 0
   ·rw [pairs_bad s c hc hneg] at hp; cases hp
   ·omega
  obtain ⟨t, h1, h2⟩ := pairs_some s hev hall
  rw [hp] at h1
  cases h1
  have := g2 ⟨hev, hs, hall⟩
  rw [← h2] at this
  exact this.freeze_out (rows' := [(0, rdB r b)]) 64 _ rfl (Frz.own (by rw [h2, pv_len]; omega)) ⟨⟨rfl, _, rfl, .refl _⟩, trivial⟩
abbrev rowC (c : SCfg) (R : D) : Row := .box 30 (.d (.cons (encCfg c) R))
theorem nmb_nil (B : Nat) (b : Bool) : nmb B [] b = (0, [], true) := rfl
theorem nmb_some {B n : Nat} {w : List UInt8} {r : List (List UInt8)} {b : Bool} (h : numS B w = some n) : nmb B (w :: r) b = (n, r, b) := by simp only [nmb, nx, h]
theorem nmb_none {B : Nat} {w : List UInt8} {r : List (List UInt8)} {b : Bool} (h : numS B w = none) : nmb B (w :: r) b = (0, r, true) := by simp only [nmb, nx, h]
theorem nmb_len {B : Nat} {ws : List (List UInt8)} {bad : Bool} {n : Nat} (h : ∀ w ∈ ws, w.length ≤ n) : ∀ w ∈ (nmb B ws bad).2.1, w.length ≤ n := by
 have := (nx_len (bad := bad) h).2
 unfold nmb
 split <;> exact this
theorem split_len {t : List UInt8} (h : t.length ≤ 1048576) : ∀ w ∈ splitL t 32, w.length ≤ 1048576 := fun w hw => Nat.le_trans (split_mem_le t 32 w hw) h
def endB (x : List (List UInt8) × Bool) : Bool := !x.2 && decide (x.1 = [])
abbrev HeadIs (i : Nat) (t : List UInt8) (c : SCfg) (R : D) (res : Bool) (c' : SCfg) : Prop := FnIs Tryz.prog 47 [.int .i64 i, .d (strD t), .ptr 0 [.fld 0 0]] [(0, rowC c R)] (.bool res) [(0, rowC c' R)]
theorem head_0 (t : List UInt8) (c : SCfg) (R : D) (ht : t.length ≤ 1048576) (r0 r1 r2 r3 r4 : List (List UInt8)) (b0 b1 b2 b3 b4 : Bool) (n1 n2 n3 n4 : Nat) (e0 : (nx (splitL t 32) false).2.1 = r0) (f0 : wd sVolume (splitL t 32) false = b0)
  (e1 : nmb 31 r0 b0 = (n1, r1, b1)) (e2 : nmb 31 r1 b1 = (n2, r2, b2)) (e3 : nmb 31 r2 b2 = (n3, r3, b3)) (e4 : nmb 31 r3 b3 = (n4, r4, b4)) :
  HeadIs 0 t c R (endB (r4, b4)) { c with blocks := n1, shards := n2, frames := n3, clients := n4 } := by
 have hsp := split_is (l := t) (c := 32) (by omega)
 have q0 := split_len ht
 have g0 : ∀ w ∈ r0, w.length ≤ 1048576 := by rw [← e0]; exact (nx_len q0).2
 have g1 : ∀ w ∈ r1, w.length ≤ 1048576 := by have := nmb_len (B := 31) (bad := b0) g0; rw [e1] at this; exact this
 have g2 : ∀ w ∈ r2, w.length ≤ 1048576 := by have := nmb_len (B := 31) (bad := b1) g1; rw [e2] at this; exact this
 have g3 : ∀ w ∈ r3, w.length ≤ 1048576 := by have := nmb_len (B := 31) (bad := b2) g2; rw [e3] at this; exact this
 have w0 := word_is sVolume (splitL t 32) false
 have c1 := count_isR r0 b0 g0
 have c2 := count_isR r1 b1 g1
 have c3 := count_isR r2 b2 g2
 have c4 := count_isR r3 b3 g3
 rw [e0, f0] at w0
 rw [e1] at c1
 rw [e2] at c2
 rw [e3] at c3
 rw [e4] at c4
 have ce := isend_is r4 b4
 have d0 : decide ((0 : Int) = 0) = true := rfl
 refine fnIs_of tab_ok Tryz.func47 rfl rfl rfl ?_;refine sR ?_;refine rC ?_;refine nR ?_;refine rC ?_;refine rQ (call_r hsp rfl rfl (arg_e (arg_e arg_nil)) (.inl rfl) (fun _ => rfl)) ?_
 refine rQ iS ?_;refine rN ?_;refine rC ?_;refine nQ ?_;refine sR ?_;refine rC ?_;refine nS ?_;refine wc_block ?_;refine sR ?_;iterate 2 refine rC ?_
 refine nS ?_;refine wV ?_;refine sR ?_;refine rC ?_;refine reg_new2 (call_h [(0, some _)] w0 rfl rfl rfl (arg_ptr rfl rfl (arg_e arg_nil)) ⟨⟨rfl, rfl, _, _, rfl, rfl, .refl _⟩, trivial⟩ rfl rfl (.inl rfl) rfl rfl) rfl ?_
 refine nS ?_;refine wc_region ?_;iterate 5 refine rC ?_
 refine reg_new2 (call_h [(0, some _)] c1 rfl rfl rfl (arg_ptr rfl rfl arg_nil) ⟨⟨rfl, rfl, _, _, rfl, rfl, .refl _⟩, trivial⟩ rfl rfl (.inl rfl) rfl rfl) rfl ?_
 refine rC ?_;refine reg_new2 (call_h [(0, some _)] c2 rfl rfl rfl (arg_ptr rfl rfl arg_nil) ⟨⟨rfl, rfl, _, _, rfl, rfl, .refl _⟩, trivial⟩ rfl rfl (.inl rfl) rfl rfl) rfl ?_
 refine rC ?_;refine reg_new2 (call_h [(0, some _)] c3 rfl rfl rfl (arg_ptr rfl rfl arg_nil) ⟨⟨rfl, rfl, _, _, rfl, rfl, .refl _⟩, trivial⟩ rfl rfl (.inl rfl) rfl rfl) rfl ?_
 refine rC ?_;refine reg_new2 (call_h [(0, some _)] c4 rfl rfl rfl (arg_ptr rfl rfl arg_nil) ⟨⟨rfl, rfl, _, _, rfl, rfl, .refl _⟩, trivial⟩ rfl rfl (.inl rfl) rfl rfl) rfl ?_
 iterate 2 refine rC ?_
 refine reg_store (store_row tab_ok rfl rfl rfl ⟨_, ⟨_, ⟨_, ⟨_, ⟨rfl, rfl, rfl⟩, rfl⟩, rfl⟩, rfl⟩, rfl⟩ rfl) ?_;iterate 2 refine rC ?_
 refine reg_store (store_row tab_ok rfl rfl rfl ⟨_, ⟨_, ⟨_, ⟨_, ⟨rfl, rfl, rfl⟩, rfl⟩, rfl⟩, rfl⟩, rfl⟩ rfl) ?_;iterate 2 refine rC ?_
 refine reg_store (store_row tab_ok rfl rfl rfl ⟨_, ⟨_, ⟨_, ⟨_, ⟨rfl, rfl, rfl⟩, rfl⟩, rfl⟩, rfl⟩, rfl⟩ rfl) ?_;iterate 2 refine rC ?_
 refine reg_store (store_row tab_ok rfl rfl rfl ⟨_, ⟨_, ⟨_, ⟨_, ⟨rfl, rfl, rfl⟩, rfl⟩, rfl⟩, rfl⟩, rfl⟩ rfl) ?_;refine reg_nil ?_;refine blk_n ?_;refine seq_n ?_
 refine sR ?_;refine rC ?_;refine reg_new2 (call_h [(0, some _)] ce rfl rfl rfl (arg_ptr rfl rfl arg_nil) ⟨⟨rfl, rfl, _, _, rfl, rfl, .refl _⟩, trivial⟩ rfl rfl (.inl rfl) rfl rfl) rfl ?_
 refine rC ?_;refine nS ?_;refine wc_ret ?_
 exact ⟨trivial, [], .of rfl rfl rfl rfl rfl ⟨⟨_, rfl, AVLe.of_eq rfl⟩, rfl, trivial⟩ ⟨⟨rfl, rfl, _, rfl, .refl _⟩, trivial⟩⟩
theorem head_1 (t : List UInt8) (c : SCfg) (R : D) (ht : t.length ≤ 1048576) (r0 r1 r2 : List (List UInt8)) (b0 b1 b2 : Bool) (n1 n2 : Nat) (e0 : (nx (splitL t 32) false).2.1 = r0) (f0 : wd sNonces (splitL t 32) false = b0)
  (e1 : nmb 64 r0 b0 = (n1, r1, b1)) (e2 : nmb 64 r1 b1 = (n2, r2, b2)) : HeadIs 1 t c R (endB (r2, b2)) { c with limit := n1, reserve := n2 } := by
 have hsp := split_is (l := t) (c := 32) (by omega)
 have q0 := split_len ht
 have g0 : ∀ w ∈ r0, w.length ≤ 1048576 := by rw [← e0]; exact (nx_len q0).2
 have g1 : ∀ w ∈ r1, w.length ≤ 1048576 := by have := nmb_len (B := 64) (bad := b0) g0; rw [e1] at this; exact this
 have w0 := word_is sNonces (splitL t 32) false
 have c1 := numberR_is 64 (by decide) r0 b0 (pu64_is (by have := (nx_len (bad := b0) g0).1; omega))
 have c2 := numberR_is 64 (by decide) r1 b1 (pu64_is (by have := (nx_len (bad := b1) g1).1; omega))
 rw [e0, f0] at w0
 rw [e1] at c1
 rw [e2] at c2
 have ce := isend_is r2 b2
 have d0 : decide ((1 : Int) = 0) = false := rfl
 have d1 : decide ((1 : Int) = 1) = true := rfl
 refine fnIs_of tab_ok Tryz.func47 rfl rfl rfl ?_;refine sR ?_;refine rC ?_;refine nR ?_;refine rC ?_;refine rQ (call_r hsp rfl rfl (arg_e (arg_e arg_nil)) (.inl rfl) (fun _ => rfl)) ?_
 refine rQ iS ?_;refine rN ?_;refine rC ?_;refine nQ ?_;refine sR ?_;refine rC ?_;refine nS ?_;refine wc_block ?_;refine sR ?_;iterate 2 refine rC ?_
 refine nS ?_;refine wG ?_;refine sR ?_;iterate 2 refine rC ?_
 refine nS ?_;refine wV ?_;refine sR ?_;refine rC ?_;refine reg_new2 (call_h [(0, some _)] w0 rfl rfl rfl (arg_ptr rfl rfl (arg_e arg_nil)) ⟨⟨rfl, rfl, _, _, rfl, rfl, .refl _⟩, trivial⟩ rfl rfl (.inl rfl) rfl rfl) rfl ?_
 refine nS ?_;refine wc_region ?_;iterate 3 refine rC ?_
 refine reg_new2 (call_h [(0, some _)] c1 rfl rfl rfl (arg_ptr rfl rfl (arg_e arg_nil)) ⟨⟨rfl, rfl, _, _, rfl, rfl, .refl _⟩, trivial⟩ rfl rfl (.inl rfl) rfl rfl) rfl ?_
 refine rC ?_;refine reg_new2 (call_h [(0, some _)] c2 rfl rfl rfl (arg_ptr rfl rfl (arg_e arg_nil)) ⟨⟨rfl, rfl, _, _, rfl, rfl, .refl _⟩, trivial⟩ rfl rfl (.inl rfl) rfl rfl) rfl ?_
 iterate 2 refine rC ?_
 refine reg_store (store_row tab_ok rfl rfl rfl ⟨_, ⟨_, ⟨_, ⟨_, ⟨rfl, rfl, rfl⟩, rfl⟩, rfl⟩, rfl⟩, rfl⟩ rfl) ?_;iterate 2 refine rC ?_
 refine reg_store (store_row tab_ok rfl rfl rfl ⟨_, ⟨_, ⟨_, ⟨_, ⟨rfl, rfl, rfl⟩, rfl⟩, rfl⟩, rfl⟩, rfl⟩ rfl) ?_;refine reg_nil ?_;refine blk_n ?_;refine seq_n ?_
 refine sR ?_;refine rC ?_;refine reg_new2 (call_h [(0, some _)] ce rfl rfl rfl (arg_ptr rfl rfl arg_nil) ⟨⟨rfl, rfl, _, _, rfl, rfl, .refl _⟩, trivial⟩ rfl rfl (.inl rfl) rfl rfl) rfl ?_
 refine rC ?_;refine nS ?_;refine wc_ret ?_
 exact ⟨trivial, [], .of rfl rfl rfl rfl rfl ⟨⟨_, rfl, AVLe.of_eq rfl⟩, rfl, trivial⟩ ⟨⟨rfl, rfl, _, rfl, .refl _⟩, trivial⟩⟩
theorem head_2 (t : List UInt8) (c : SCfg) (R : D) (ht : t.length ≤ 1048576) (r0 r1 : List (List UInt8)) (b0 b1 : Bool) (n1 : Nat) (e0 : (nx (splitL t 32) false).2.1 = r0) (f0 : wd sFlaw (splitL t 32) false = b0)
  (e1 : nmb 8 r0 b0 = (n1, r1, b1)) : HeadIs 2 t c R (endB (r1, b1)) { c with flaw := n1 } := by
 have hsp := split_is (l := t) (c := 32) (by omega)
 have q0 := split_len ht
 have g0 : ∀ w ∈ r0, w.length ≤ 1048576 := by rw [← e0]; exact (nx_len q0).2
 have w0 := word_is sFlaw (splitL t 32) false
 have c1 := numberR_is 8 (by decide) r0 b0 (pu8_is (by have := (nx_len (bad := b0) g0).1; omega))
 rw [e0, f0] at w0
 have hlt := nmb_lt (B := 8) (ws := r0) (bad := b0)
 rw [e1] at c1 hlt
 have hw : IntKind.u8.wrap (n1 : Int) = (n1 : Int) := wrap_u8n (by simpa using hlt)
 have ce := isend_is r1 b1
 have d0 : decide ((2 : Int) = 0) = false := rfl
 have d1 : decide ((2 : Int) = 1) = false := rfl
 have d2 : decide ((2 : Int) = 2) = true := rfl
 refine fnIs_of tab_ok Tryz.func47 rfl rfl rfl ?_;refine sR ?_;refine rC ?_;refine nR ?_;refine rC ?_;refine rQ (call_r hsp rfl rfl (arg_e (arg_e arg_nil)) (.inl rfl) (fun _ => rfl)) ?_
 refine rQ iS ?_;refine rN ?_;refine rC ?_;refine nQ ?_;refine sR ?_;refine rC ?_;refine nS ?_;refine wc_block ?_;refine sR ?_;iterate 2 refine rC ?_
 refine nS ?_;refine wG ?_;refine sR ?_;iterate 2 refine rC ?_
 refine nS ?_;refine wG ?_;refine sR ?_;iterate 2 refine rC ?_
 refine nS ?_;refine wV ?_;refine sR ?_;refine rC ?_;refine reg_new2 (call_h [(0, some _)] w0 rfl rfl rfl (arg_ptr rfl rfl (arg_e arg_nil)) ⟨⟨rfl, rfl, _, _, rfl, rfl, .refl _⟩, trivial⟩ rfl rfl (.inl rfl) rfl rfl) rfl ?_
 refine nS ?_;refine wc_region ?_;iterate 2 refine rC ?_
 refine reg_new2 (call_h [(0, some _)] c1 rfl rfl rfl (arg_ptr rfl rfl (arg_e arg_nil)) ⟨⟨rfl, rfl, _, _, rfl, rfl, .refl _⟩, trivial⟩ rfl rfl (.inl rfl) rfl rfl) rfl ?_
 refine rQ (conv_int (m := (n1 : Int)) tab_ok rfl rfl rfl hw) ?_;iterate 2 refine rC ?_
 refine reg_store (store_row tab_ok rfl rfl rfl ⟨_, ⟨_, ⟨_, ⟨_, ⟨rfl, rfl, rfl⟩, rfl⟩, rfl⟩, rfl⟩, rfl⟩ rfl) ?_;refine reg_nil ?_;refine blk_n ?_;refine seq_n ?_
 refine sR ?_;refine rC ?_;refine reg_new2 (call_h [(0, some _)] ce rfl rfl rfl (arg_ptr rfl rfl arg_nil) ⟨⟨rfl, rfl, _, _, rfl, rfl, .refl _⟩, trivial⟩ rfl rfl (.inl rfl) rfl rfl) rfl ?_
 refine rC ?_;refine nS ?_;refine wc_ret ?_
 exact ⟨trivial, [], .of rfl rfl rfl rfl rfl ⟨⟨_, rfl, AVLe.of_eq rfl⟩, rfl, trivial⟩ ⟨⟨rfl, rfl, _, rfl, .refl _⟩, trivial⟩⟩
theorem head_3 (t : List UInt8) (c : SCfg) (R : D) (ht : t.length ≤ 1048576) (r0 r1 : List (List UInt8)) (b0 b1 : Bool) (m : List UInt8) (e0 : (nx (splitL t 32) false).2.1 = r0) (f0 : wd sMaster (splitL t 32) false = b0)
  (e1 : byt r0 b0 = (m, r1, b1)) : if m.length = 32 then HeadIs 3 t c R (endB (r1, b1)) { c with master := m } else HeadIs 3 t c R false c := by
 have hsp := split_is (l := t) (c := 32) (by omega)
 have q0 := split_len ht
 have g0 : ∀ w ∈ r0, w.length ≤ 1048576 := by rw [← e0]; exact (nx_len q0).2
 have w0 := word_is sMaster (splitL t 32) false
 have c1 := bytesR_is r0 b0 g0
 rw [e0, f0] at w0
 rw [e1] at c1
 have ce := isend_is r1 b1
 have d0 : decide ((3 : Int) = 0) = false := rfl
 have d1 : decide ((3 : Int) = 1) = false := rfl
 have d2 : decide ((3 : Int) = 2) = false := rfl
 have d3 : decide ((3 : Int) = 3) = true := rfl
 by_cases hm : m.length = 32
 ·rw [if_pos hm]
  have hl32 : (byI m).length = 32 := by rw [byI_len, hm]
  have hd : (!decide (((byI m).length : Int) = 32)) = false := by rw [hl32]; rfl
  refine fnIs_of tab_ok Tryz.func47 rfl rfl rfl ?_;refine sR ?_;refine rC ?_;refine nR ?_;refine rC ?_;refine rQ (call_r hsp rfl rfl (arg_e (arg_e arg_nil)) (.inl rfl) (fun _ => rfl)) ?_
  refine rQ iS ?_;refine rN ?_;refine rC ?_;refine nQ ?_;refine sR ?_;refine rC ?_;refine nS ?_;refine wc_block ?_;refine sR ?_;iterate 2 refine rC ?_
  refine nS ?_;refine wG ?_;refine sR ?_;iterate 2 refine rC ?_
  refine nS ?_;refine wG ?_;refine sR ?_;iterate 2 refine rC ?_
  refine nS ?_;refine wG ?_;refine sR ?_;iterate 2 refine rC ?_
  refine nS ?_;refine wV ?_;refine sR ?_;refine rC ?_;refine reg_new2 (call_h [(0, some _)] w0 rfl rfl rfl (arg_ptr rfl rfl (arg_e arg_nil)) ⟨⟨rfl, rfl, _, _, rfl, rfl, .refl _⟩, trivial⟩ rfl rfl (.inl rfl) rfl rfl) rfl ?_
  refine nR ?_;refine rC ?_;refine reg_new2 (call_h [(0, some _)] c1 rfl rfl rfl (arg_ptr rfl rfl arg_nil) ⟨⟨rfl, rfl, _, _, rfl, rfl, .refl _⟩, trivial⟩ rfl rfl (.inl rfl) rfl rfl) rfl ?_
  refine rC ?_;refine nQ ?_;refine sR ?_;refine rC ?_;refine rQ iE ?_;refine rC ?_;refine nS ?_;refine wF ?_;refine kS ?_;refine wc_region ?_;iterate 3 refine rC ?_
  refine rQ (slice_ptr tab_ok rfl rfl rfl) ?_;refine rC ?_;refine reg_new (copy_asl (enc := encU8) (s := 1) (ys := byI m) tab_ok rfl rfl rfl rfl rfl rfl rfl hl32 rfl ⟨_, ⟨_, ⟨_, ⟨_, ⟨rfl, rfl, rfl⟩, rfl⟩, rfl⟩, rfl⟩, rfl⟩) rfl ?_
  refine reg_nil ?_;refine blk_n ?_;refine seq_n ?_;refine sR ?_;refine rC ?_;refine reg_new2 (call_h [(0, some _)] ce rfl rfl rfl (arg_ptr rfl rfl arg_nil) ⟨⟨rfl, rfl, _, _, rfl, rfl, .refl _⟩, trivial⟩ rfl rfl (.inl rfl) rfl rfl) rfl ?_
  refine rC ?_;refine nS ?_;refine wc_ret ?_
  exact ⟨trivial, [], .of rfl rfl rfl rfl rfl ⟨⟨_, rfl, AVLe.of_eq rfl⟩, rfl, trivial⟩ ⟨⟨rfl, rfl, _, rfl, .refl _⟩, trivial⟩⟩
 ·rw [if_neg hm]
  have hd : (!decide (((byI m).length : Int) = 32)) = true := by rw [byI_len, dF (by omega)]; rfl
  refine fnIs_of tab_ok Tryz.func47 rfl rfl rfl ?_;refine sR ?_;refine rC ?_;refine nR ?_;refine rC ?_;refine rQ (call_r hsp rfl rfl (arg_e (arg_e arg_nil)) (.inl rfl) (fun _ => rfl)) ?_
  refine rQ iS ?_;refine rN ?_;refine rC ?_;refine nQ ?_;refine sR ?_;refine rC ?_;refine nS ?_;refine wc_block ?_;refine sR ?_;iterate 2 refine rC ?_
  refine nS ?_;refine wG ?_;refine sR ?_;iterate 2 refine rC ?_
  refine nS ?_;refine wG ?_;refine sR ?_;iterate 2 refine rC ?_
  refine nS ?_;refine wG ?_;refine sR ?_;iterate 2 refine rC ?_
  refine nS ?_;refine wV ?_;refine sR ?_;refine rC ?_;refine reg_new2 (call_h [(0, some _)] w0 rfl rfl rfl (arg_ptr rfl rfl (arg_e arg_nil)) ⟨⟨rfl, rfl, _, _, rfl, rfl, .refl _⟩, trivial⟩ rfl rfl (.inl rfl) rfl rfl) rfl ?_
  refine nR ?_;refine rC ?_;refine reg_new2 (call_h [(0, some _)] c1 rfl rfl rfl (arg_ptr rfl rfl arg_nil) ⟨⟨rfl, rfl, _, _, rfl, rfl, .refl _⟩, trivial⟩ rfl rfl (.inl rfl) rfl rfl) rfl ?_
  refine rC ?_;refine nQ ?_;refine sR ?_;refine rC ?_;refine rQ iE ?_;refine rC ?_;refine nS ?_;refine wT ?_;refine sR ?_;refine rC ?_;refine nS ?_;refine wc_ret ?_
  refine seq_r ?_;refine blk_r ?_;refine seq_r ?_
  exact ⟨trivial, [], .of rfl rfl rfl rfl rfl ⟨⟨_, rfl, AVLe.of_eq rfl⟩, rfl, trivial⟩ ⟨⟨rfl, rfl, _, rfl, .refl _⟩, trivial⟩⟩
theorem head_4 (t : List UInt8) (c : SCfg) (R : D) (ht : t.length ≤ 1048576) (r0 : List (List UInt8)) (b0 : Bool) (e0 : (nx (splitL t 32) false).2.1 = r0) (f0 : wd sPrograms (splitL t 32) false = b0) : HeadIs 4 t c R (endB (r0, b0)) c := by
 have hsp := split_is (l := t) (c := 32) (by omega)
 have w0 := word_is sPrograms (splitL t 32) false
 rw [e0, f0] at w0
 have ce := isend_is r0 b0
 have d0 : decide ((4 : Int) = 0) = false := rfl
 have d1 : decide ((4 : Int) = 1) = false := rfl
 have d2 : decide ((4 : Int) = 2) = false := rfl
 have d3 : decide ((4 : Int) = 3) = false := rfl
 refine fnIs_of tab_ok Tryz.func47 rfl rfl rfl ?_;refine sR ?_;refine rC ?_;refine nR ?_;refine rC ?_;refine rQ (call_r hsp rfl rfl (arg_e (arg_e arg_nil)) (.inl rfl) (fun _ => rfl)) ?_
 refine rQ iS ?_;refine rN ?_;refine rC ?_;refine nQ ?_;refine sR ?_;refine rC ?_;refine nS ?_;refine wc_block ?_;refine sR ?_;iterate 2 refine rC ?_
 refine nS ?_;refine wG ?_;refine sR ?_;iterate 2 refine rC ?_
 refine nS ?_;refine wG ?_;refine sR ?_;iterate 2 refine rC ?_
 refine nS ?_;refine wG ?_;refine sR ?_;iterate 2 refine rC ?_
 refine nS ?_;refine wG ?_;refine wc_region ?_;refine rC ?_;refine reg_new2 (call_h [(0, some _)] w0 rfl rfl rfl (arg_ptr rfl rfl (arg_e arg_nil)) ⟨⟨rfl, rfl, _, _, rfl, rfl, .refl _⟩, trivial⟩ rfl rfl (.inl rfl) rfl rfl) rfl ?_
 refine reg_nil ?_;refine blk_n ?_;refine seq_n ?_;refine sR ?_;refine rC ?_;refine reg_new2 (call_h [(0, some _)] ce rfl rfl rfl (arg_ptr rfl rfl arg_nil) ⟨⟨rfl, rfl, _, _, rfl, rfl, .refl _⟩, trivial⟩ rfl rfl (.inl rfl) rfl rfl) rfl ?_
 refine rC ?_;refine nS ?_;refine wc_ret ?_
 exact ⟨trivial, [], .of rfl rfl rfl rfl rfl ⟨⟨_, rfl, AVLe.of_eq rfl⟩, rfl, trivial⟩ ⟨⟨rfl, rfl, _, rfl, .refl _⟩, trivial⟩⟩
end Go.Proofs.YthiijfbcfoifnaaGreatDoor
namespace Go.Proofs.YthiijfbcfoifnaaGreatDoor
open Go.Eng Go.Plain
theorem nmb_fwd {B n : Nat} {r r' : List (List UInt8)} {b : Bool} (h : nmb B r b = (n, r', false)) : ∃ w, r = w :: r' ∧ b = false ∧ numS B w = some n := by
 cases r with
 | nil => rw [nmb_nil] at h; cases h
 | cons w r =>
  cases hn : numS B w with
  | none => rw [nmb_none hn] at h; cases h
  | some k => rw [nmb_some hn] at h; cases h; exact ⟨w, rfl, rfl, hn⟩
theorem byt_fwd {m : List UInt8} {r r' : List (List UInt8)} {b : Bool} (h : byt r b = (m, r', false)) : ∃ w, r = w :: r' ∧ b = false ∧ unhexP w = some m := by
 cases r with
 | nil => cases h
 | cons w r =>
  cases hn : unhexP w with
  | none => simp only [byt, nx, hn] at h; cases h
  | some k => simp only [byt, nx, hn] at h; cases h; exact ⟨w, rfl, rfl, hn⟩
theorem byt_some {m w : List UInt8} {r : List (List UInt8)} {b : Bool} (h : unhexP w = some m) : byt (w :: r) b = (m, r, b) := by simp only [byt, nx, h]
theorem wd_fwd {v : List UInt8} {ws r : List (List UInt8)} (h : (nx ws false).2.1 = r) (hb : wd v ws false = false) : ws = v :: r := by
 cases ws with
 | nil => simp [wd, nx] at hb
 | cons w r' =>
  have h : r' = r := h
  have hb : (if w = v then false else true) = false := hb
  by_cases e : w = v
  ·rw [e, h]
  ·rw [if_neg e] at hb; cases hb
theorem wd_self (v : List UInt8) (r : List (List UInt8)) : wd v (v :: r) false = false := by show (if v = v then false else true) = false; rw [if_pos rfl]
theorem endB_true {r : List (List UInt8)} {b : Bool} (h : endB (r, b) = true) : r = [] ∧ b = false := by
 cases b with
 | true => cases h
 | false => exact ⟨by simpa [endB] using h, rfl⟩
theorem head_is (i : Nat) (hi : i < 5) (t : List UInt8) (c : SCfg) (R : D) (ht : t.length ≤ 1048576) : ∃ res c', HeadIs i t c R res c' ∧ headS i t c = if res = true then some c' else none := by
 have key : ∀ (res : Bool) (c' : SCfg), HeadIs i t c R res c' → (res = true → headS i t c = some c') → (∀ d, headS i t c = some d → res = true) → ∃ res c', HeadIs i t c R res c' ∧ headS i t c = if res = true then some c' else none := by
  intro res c' h1 h2 h3
  refine ⟨res, c', h1, ?_⟩
  cases res with
  | true => rw [if_pos rfl]; exact h2 rfl
  | false =>
   rw [if_neg (by decide)]
   cases hq : headS i t c with
   | none => rfl
   | some d => have := h3 d hq; cases this
 match i, hi, key with
 | 0, _, key =>
  obtain ⟨⟨n1, r1, b1⟩, e1⟩ : ∃ x, nmb 31 (nx (splitL t 32) false).2.1 (wd sVolume (splitL t 32) false) = x := ⟨_, rfl⟩
  obtain ⟨⟨n2, r2, b2⟩, e2⟩ : ∃ x, nmb 31 r1 b1 = x := ⟨_, rfl⟩
  obtain ⟨⟨n3, r3, b3⟩, e3⟩ : ∃ x, nmb 31 r2 b2 = x := ⟨_, rfl⟩
  obtain ⟨⟨n4, r4, b4⟩, e4⟩ : ∃ x, nmb 31 r3 b3 = x := ⟨_, rfl⟩
  refine key _ _ (head_0 t c R ht _ r1 r2 r3 r4 _ b1 b2 b3 b4 n1 n2 n3 n4 rfl rfl e1 e2 e3 e4) (fun h => ?_) (fun d h => ?_)
  ·obtain ⟨rfl, rfl⟩ := endB_true h
   obtain ⟨w4, rfl, rfl, h4⟩ := nmb_fwd e4
   obtain ⟨w3, rfl, rfl, h3⟩ := nmb_fwd e3
   obtain ⟨w2, rfl, rfl, h2⟩ := nmb_fwd e2
   obtain ⟨w1, hr, hb, h1⟩ := nmb_fwd e1
   have hs := wd_fwd hr hb
   rw [headS0, hs]
   simp only [hd0, if_pos, h1, h2, h3, h4]
  ·rw [headS0] at h
   unfold hd0 at h
   split at h
   ·rename_i v x1 x2 x3 x4 hs
    split at h
    ·rename_i hv
     split at h
     ·rename_i m1 m2 m3 m4 g1 g2 g3 g4
      rw [hs, hv, wd_self] at e1
      rw [show (nx (sVolume :: [x1, x2, x3, x4]) false).2.1 = [x1, x2, x3, x4] from rfl, nmb_some g1] at e1
      cases e1
      rw [nmb_some g2] at e2
      cases e2
      rw [nmb_some g3] at e3
      cases e3
      rw [nmb_some g4] at e4
      cases e4
      rfl
     ·cases h
    ·cases h
   ·cases h
 | 1, _, key =>
  obtain ⟨⟨n1, r1, b1⟩, e1⟩ : ∃ x, nmb 64 (nx (splitL t 32) false).2.1 (wd sNonces (splitL t 32) false) = x := ⟨_, rfl⟩
  obtain ⟨⟨n2, r2, b2⟩, e2⟩ : ∃ x, nmb 64 r1 b1 = x := ⟨_, rfl⟩
  refine key _ _ (head_1 t c R ht _ r1 r2 _ b1 b2 n1 n2 rfl rfl e1 e2) (fun h => ?_) (fun d h => ?_)
  ·obtain ⟨rfl, rfl⟩ := endB_true h
   obtain ⟨w2, rfl, rfl, h2⟩ := nmb_fwd e2
   obtain ⟨w1, hr, hb, h1⟩ := nmb_fwd e1
   have hs := wd_fwd hr hb
   rw [headS1, hs]
   simp only [hd1, if_pos, h1, h2]
  ·rw [headS1] at h
   unfold hd1 at h
   split at h
   ·rename_i v x1 x2 hs
    split at h
    ·rename_i hv
     split at h
     ·rename_i m1 m2 g1 g2
      rw [hs, hv, wd_self] at e1
      rw [show (nx (sNonces :: [x1, x2]) false).2.1 = [x1, x2] from rfl, nmb_some g1] at e1
      cases e1
      rw [nmb_some g2] at e2
      cases e2
      rfl
     ·cases h
    ·cases h
   ·cases h
 | 2, _, key =>
  obtain ⟨⟨n1, r1, b1⟩, e1⟩ : ∃ x, nmb 8 (nx (splitL t 32) false).2.1 (wd sFlaw (splitL t 32) false) = x := ⟨_, rfl⟩
  refine key _ _ (head_2 t c R ht _ r1 _ b1 n1 rfl rfl e1) (fun h => ?_) (fun d h => ?_)
  ·obtain ⟨rfl, rfl⟩ := endB_true h
   obtain ⟨w1, hr, hb, h1⟩ := nmb_fwd e1
   have hs := wd_fwd hr hb
   rw [headS2, hs]
   simp only [hd2, if_pos, h1]
  ·rw [headS2] at h
   unfold hd2 at h
   split at h
   ·rename_i v x1 hs
    split at h
    ·rename_i hv
     split at h
     ·rename_i m1 g1
      rw [hs, hv, wd_self] at e1
      rw [show (nx (sFlaw :: [x1]) false).2.1 = [x1] from rfl, nmb_some g1] at e1
      cases e1
      rfl
     ·cases h
    ·cases h
   ·cases h
 | 3, _, key =>
  obtain ⟨⟨m, r1, b1⟩, e1⟩ : ∃ x, byt (nx (splitL t 32) false).2.1 (wd sMaster (splitL t 32) false) = x := ⟨_, rfl⟩
  have hh := head_3 t c R ht _ r1 _ b1 m rfl rfl e1
  by_cases hm : m.length = 32
  ·rw [if_pos hm] at hh
   refine key _ _ hh (fun h => ?_) (fun d h => ?_)
   ·obtain ⟨rfl, rfl⟩ := endB_true h
    obtain ⟨w1, hr, hb, h1⟩ := byt_fwd e1
    have hs := wd_fwd hr hb
    rw [headS3, hs]
    simp only [hd3, if_pos, h1, hm]
   ·rw [headS3] at h
    unfold hd3 at h
    split at h
    ·rename_i v x1 hs
     split at h
     ·rename_i hv
      split at h
      ·rename_i m1 g1
       rw [hs, hv, wd_self] at e1
       rw [show (nx (sMaster :: [x1]) false).2.1 = [x1] from rfl, byt_some g1] at e1
       cases e1
       rfl
      ·cases h
     ·cases h
    ·cases h
  ·rw [if_neg hm] at hh
   refine key _ _ hh (fun h => by cases h) (fun d h => ?_)
   rw [headS3] at h
   unfold hd3 at h
   split at h
   ·rename_i v x1 hs
    split at h
    ·rename_i hv
     split at h
     ·rename_i m1 g1
      rw [hs, hv, wd_self] at e1
      rw [show (nx (sMaster :: [x1]) false).2.1 = [x1] from rfl, byt_some g1] at e1
      cases e1
      rw [if_neg hm] at h
      cases h
     ·cases h
    ·cases h
   ·cases h
 | 4, _, key =>
  refine key _ _ (head_4 t c R ht _ _ rfl rfl) (fun h => ?_) (fun d h => ?_)
  ·obtain ⟨hr, hb⟩ := endB_true h
   have hs := wd_fwd hr hb
   rw [headS4, hs]
   simp only [hd4, if_pos]
  ·rw [headS4] at h
   unfold hd4 at h
   split at h
   ·rename_i v hs
    split at h
    ·rename_i hv
     rw [hs, hv, wd_self]
     rfl
    ·cases h
   ·cases h
end Go.Proofs.YthiijfbcfoifnaaGreatDoor
namespace Go.Proofs.YthiijfbcfoifnaaGreatDoor
open Go.Eng Go.Plain
set_option maxHeartbeats 4000000
set_option maxRecDepth 20000
attribute [local irreducible] WC RegS RegD SeqQ BlkQ ScoQ RegK CutK Sat SatN FnIs LoopQ StepIs OpIs
abbrev KindIs (f : Nat) (ws : List (List UInt8)) (bad : Bool) (a : SAct) (x : List (List UInt8) × Bool) : Prop := FnIs Tryz.prog f [.ptr 0 []] [(0, rdB ws bad)] (.d (encAct a)) [(0, rdB x.1 x.2)]
theorem act_le (k t s b : Int) : AVLe (.d (.cons (u8s k) (.cons (i6 t) (.cons (i6 s) (.cons (.sc nil_) (.cons (i6 b) .nil)))))) (.d (encAct ⟨k, t, s, [], b⟩)) := AVLe.d (act_dle k t s b) rfl
theorem kind1_is (ws : List (List UInt8)) (bad : Bool) (hl : ∀ w ∈ ws, w.length ≤ 1048576) : KindIs 122 ws bad ⟨1, (nmb 31 ws bad).1, 0, [], 0⟩ (nmb 31 ws bad).2 := by
 have hc := count_isR ws bad hl
 refine fnIs_of tab_ok Tryz.func122 rfl rfl rfl ?_;refine sR ?_;refine rN ?_;refine nR ?_;refine rC ?_;refine reg_new2 (call_h [(0, some _)] hc rfl rfl rfl (arg_ptr rfl rfl arg_nil) ⟨⟨rfl, rfl, _, _, rfl, rfl, .refl _⟩, trivial⟩ rfl rfl (.inl rfl) rfl rfl) rfl ?_
 refine rQ iS ?_;refine rW ?_;refine nS ?_;refine wc_ret ?_
 exact ⟨trivial, _, rfl, [], .of rfl rfl rfl rfl rfl ⟨⟨_, rfl, act_le _ _ _ _⟩, rfl, trivial⟩ ⟨⟨rfl, rfl, _, rfl, .refl _⟩, trivial⟩⟩
theorem kind3_is (ws : List (List UInt8)) (bad : Bool) (hl : ∀ w ∈ ws, w.length ≤ 1048576) : KindIs 124 ws bad ⟨3, 0, (nmb 31 ws bad).1, [], 0⟩ (nmb 31 ws bad).2 := by
 have hc := count_isR ws bad hl
 refine fnIs_of tab_ok Tryz.func124 rfl rfl rfl ?_;refine sR ?_;refine rN ?_;refine nR ?_;refine rC ?_;refine reg_new2 (call_h [(0, some _)] hc rfl rfl rfl (arg_ptr rfl rfl arg_nil) ⟨⟨rfl, rfl, _, _, rfl, rfl, .refl _⟩, trivial⟩ rfl rfl (.inl rfl) rfl rfl) rfl ?_
 refine rQ iS ?_;refine rW ?_;refine nS ?_;refine wc_ret ?_
 exact ⟨trivial, _, rfl, [], .of rfl rfl rfl rfl rfl ⟨⟨_, rfl, act_le _ _ _ _⟩, rfl, trivial⟩ ⟨⟨rfl, rfl, _, rfl, .refl _⟩, trivial⟩⟩
theorem kind5_is (ws : List (List UInt8)) (bad : Bool) : KindIs 126 ws bad ⟨5, 0, 0, [], 0⟩ (ws, bad) := by
 refine fnIs_of tab_ok Tryz.func126 rfl rfl rfl ?_;refine sR ?_;refine rN ?_;refine nR ?_;refine rQ iS ?_;refine rW ?_;refine nS ?_;refine wc_ret ?_
 exact ⟨trivial, _, rfl, [], .of rfl rfl rfl rfl rfl ⟨⟨_, rfl, act_le _ _ _ _⟩, rfl, trivial⟩ ⟨⟨rfl, rfl, _, rfl, .refl _⟩, trivial⟩⟩
theorem kind2_is (ws : List (List UInt8)) (bad : Bool) (hl : ∀ w ∈ ws, w.length ≤ 1048576) : KindIs 123 ws bad ⟨2, 0, (nmb 31 ws bad).1, (byt (nmb 31 ws bad).2.1 (nmb 31 ws bad).2.2).1, 0⟩ (byt (nmb 31 ws bad).2.1 (nmb 31 ws bad).2.2).2 := by
 have hc := count_isR ws bad hl
 have hb := bytesR_is (nmb 31 ws bad).2.1 (nmb 31 ws bad).2.2 (nmb_len hl)
 refine fnIs_of tab_ok Tryz.func123 rfl rfl rfl ?_;refine sR ?_;refine rN ?_;refine nR ?_;refine rC ?_;refine reg_new2 (call_h [(0, some _)] hc rfl rfl rfl (arg_ptr rfl rfl arg_nil) ⟨⟨rfl, rfl, _, _, rfl, rfl, .refl _⟩, trivial⟩ rfl rfl (.inl rfl) rfl rfl) rfl ?_
 refine rQ iS ?_;refine rN ?_;refine rW ?_;refine nR ?_;refine rC ?_;refine reg_new2 (call_h [(0, some _)] hb rfl rfl rfl (arg_ptr rfl rfl arg_nil) ⟨⟨rfl, rfl, _, _, rfl, rfl, .refl _⟩, trivial⟩ rfl rfl (.inl rfl) rfl rfl) rfl ?_
 refine rC ?_;refine rX ?_;refine nR ?_;refine rQ iM ?_;refine rW ?_;refine nS ?_;refine wc_ret ?_
 exact ⟨trivial, _, rfl, [], .of rfl rfl rfl rfl rfl ⟨⟨_, rfl, AVLe.of_eq rfl⟩, rfl, trivial⟩ ⟨⟨rfl, rfl, _, rfl, .refl _⟩, trivial⟩⟩
theorem kind4_is (ws : List (List UInt8)) (bad : Bool) (hl : ∀ w ∈ ws, w.length ≤ 1048576) : KindIs 125 ws bad ⟨4, 0, (nmb 31 ws bad).1, [], (nmb 31 (nmb 31 ws bad).2.1 (nmb 31 ws bad).2.2).1⟩ (nmb 31 (nmb 31 ws bad).2.1 (nmb 31 ws bad).2.2).2 := by
 have hc := count_isR ws bad hl
 have hb := count_isR (nmb 31 ws bad).2.1 (nmb 31 ws bad).2.2 (nmb_len hl)
 refine fnIs_of tab_ok Tryz.func125 rfl rfl rfl ?_;refine sR ?_;refine rN ?_;refine nR ?_;refine rC ?_;refine reg_new2 (call_h [(0, some _)] hc rfl rfl rfl (arg_ptr rfl rfl arg_nil) ⟨⟨rfl, rfl, _, _, rfl, rfl, .refl _⟩, trivial⟩ rfl rfl (.inl rfl) rfl rfl) rfl ?_
 refine rQ iS ?_;refine rN ?_;refine rW ?_;refine nR ?_;refine rC ?_;refine reg_new2 (call_h [(0, some _)] hb rfl rfl rfl (arg_ptr rfl rfl arg_nil) ⟨⟨rfl, rfl, _, _, rfl, rfl, .refl _⟩, trivial⟩ rfl rfl (.inl rfl) rfl rfl) rfl ?_
 refine rC ?_;refine rX ?_;refine nR ?_;refine rQ iM ?_;refine rW ?_;refine nS ?_;refine wc_ret ?_
 exact ⟨trivial, _, rfl, [], .of rfl rfl rfl rfl rfl ⟨⟨_, rfl, act_le _ _ _ _⟩, rfl, trivial⟩ ⟨⟨rfl, rfl, _, rfl, .refl _⟩, trivial⟩⟩
def kindL : List (List UInt8 × AV) := [(sPick, fnA 122), (sEdit, fnA 123), (sErase, fnA 124), (sReplay, fnA 125), (sFall, fnA 126)]
theorem fnk_zero : ZeroIs Tryz.prog 153 (.sc .nilFunc) := zero_of (by kernel_rfl) rfl
theorem kinds_none (w : List UInt8) (hf : findC w kindL 0 = none) : FnIs Tryz.prog 88 [.d (strD w)] [] (.tup (.acons (.d (.sc .nilFunc)) (.acons (.bool false) .anil))) [] := by
 refine fnIs_of tab_ok Tryz.func88 rfl rfl rfl ?_;refine sR ?_;iterate 2 refine rC ?_
 refine nR ?_;refine reg_new (make_map) rfl ?_;refine reg_do rfl (insert_new (κ := List UInt8) (enc := strD) (l := kindL.take 0) (k := sPick) key_str Tryz.underlying182 rfl rfl rfl rfl rfl) rfl rfl ?_
 refine reg_do rfl (insert_new (κ := List UInt8) (enc := strD) (l := kindL.take 1) (k := sEdit) key_str Tryz.underlying182 rfl rfl rfl rfl rfl) rfl rfl ?_;refine reg_do rfl (insert_new (κ := List UInt8) (enc := strD) (l := kindL.take 2) (k := sErase) key_str Tryz.underlying182 rfl rfl rfl rfl rfl) rfl rfl ?_
 refine reg_do rfl (insert_new (κ := List UInt8) (enc := strD) (l := kindL.take 3) (k := sReplay) key_str Tryz.underlying182 rfl rfl rfl rfl rfl) rfl rfl ?_;refine reg_do rfl (insert_new (κ := List UInt8) (enc := strD) (l := kindL.take 4) (k := sFall) key_str Tryz.underlying182 rfl rfl rfl rfl rfl) rfl rfl ?_
 iterate 2 refine rC ?_
 refine rQ (lookup2_none (κ := List UInt8) (enc := strD) (l := kindL) (k := w) key_str Tryz.underlying182 fnk_zero rfl rfl rfl hf) ?_;iterate 5 refine rC ?_
 refine nR ?_;iterate 4 refine rC ?_
 refine nS ?_;refine wc_ret ?_
 exact ⟨trivial, [], lf⟩
theorem kinds_some (w : List UInt8) (j f : Nat) (hf : findC w kindL 0 = some (j, fnA f)) : FnIs Tryz.prog 88 [.d (strD w)] [] (.tup (.acons (fnA f) (.acons (.bool true) .anil))) [] := by
 refine fnIs_of tab_ok Tryz.func88 rfl rfl rfl ?_;refine sR ?_;iterate 2 refine rC ?_
 refine nR ?_;refine reg_new (make_map) rfl ?_;refine reg_do rfl (insert_new (κ := List UInt8) (enc := strD) (l := kindL.take 0) (k := sPick) key_str Tryz.underlying182 rfl rfl rfl rfl rfl) rfl rfl ?_
 refine reg_do rfl (insert_new (κ := List UInt8) (enc := strD) (l := kindL.take 1) (k := sEdit) key_str Tryz.underlying182 rfl rfl rfl rfl rfl) rfl rfl ?_;refine reg_do rfl (insert_new (κ := List UInt8) (enc := strD) (l := kindL.take 2) (k := sErase) key_str Tryz.underlying182 rfl rfl rfl rfl rfl) rfl rfl ?_
 refine reg_do rfl (insert_new (κ := List UInt8) (enc := strD) (l := kindL.take 3) (k := sReplay) key_str Tryz.underlying182 rfl rfl rfl rfl rfl) rfl rfl ?_;refine reg_do rfl (insert_new (κ := List UInt8) (enc := strD) (l := kindL.take 4) (k := sFall) key_str Tryz.underlying182 rfl rfl rfl rfl rfl) rfl rfl ?_
 iterate 2 refine rC ?_
 refine rQ (lookup2_some (κ := List UInt8) (enc := strD) (l := kindL) (k := w) key_str Tryz.underlying182 rfl rfl rfl hf) ?_;iterate 5 refine rC ?_
 refine nR ?_;iterate 4 refine rC ?_
 refine nS ?_;refine wc_ret ?_
 exact ⟨trivial, [], lf⟩
abbrev ActIs (t : List UInt8) (a : SAct) (res : Bool) : Prop := FnIs Tryz.prog 49 [.d (strD t)] [] (.tup (.acons (.d (encAct a)) (.acons (.bool res) .anil))) []
theorem action_none (t : List UInt8) (ht : t.length ≤ 1048576) (hf : findC (nx (splitL t 32) false).1 kindL 0 = none) : ActIs t ⟨0, 0, 0, [], 0⟩ false := by
 have hsp := split_is (l := t) (c := 32) (by omega)
 have hn := next_is (splitL t 32) false
 have hk := kinds_none _ hf
 refine fnIs_of tab_ok Tryz.func49 rfl rfl rfl ?_;refine sR ?_;refine rN ?_;refine rC ?_;refine nR ?_;refine rC ?_;refine rQ (call_r hsp rfl rfl (arg_e (arg_e arg_nil)) (.inl rfl) (fun _ => rfl)) ?_
 refine rQ iS ?_;refine rN ?_;refine rC ?_;refine nR ?_;refine rC ?_;refine reg_new2 (call_h [(0, some _)] hn rfl rfl rfl (arg_ptr rfl rfl arg_nil) ⟨⟨rfl, rfl, _, _, rfl, rfl, .refl _⟩, trivial⟩ rfl rfl (.inl rfl) rfl rfl) rfl ?_
 refine rQ (call_r hk rfl rfl (arg_e arg_nil) (.inl rfl) (fun _ => rfl)) ?_;iterate 5 refine rC ?_
 refine nQ ?_;refine sR ?_;iterate 2 refine rC ?_
 refine nS ?_;refine wV ?_;refine sR ?_;refine rQ iS ?_;refine rW ?_;refine rC ?_;refine nS ?_;refine wc_ret ?_;refine seq_r ?_
 exact ⟨trivial, _, rfl, [], .of rfl rfl rfl rfl rfl ⟨⟨_, rfl, AVLe.tup1 (act_le _ _ _ _) rfl⟩, rfl, trivial⟩ trivial⟩
theorem action_some (t : List UInt8) (ht : t.length ≤ 1048576) (j f : Nat) (hf : findC (nx (splitL t 32) false).1 kindL 0 = some (j, fnA f)) (a : SAct) (x : List (List UInt8) × Bool) (hcall : KindIs f (nx (splitL t 32) false).2.1 (nx (splitL t 32) false).2.2 a x) : ActIs t a (endB x) := by
 have hsp := split_is (l := t) (c := 32) (by omega)
 have hn := next_is (splitL t 32) false
 have hk := kinds_some _ j f hf
 have he := isend_is x.1 x.2
 unfold KindIs at hcall
 refine fnIs_of tab_ok Tryz.func49 rfl rfl rfl ?_;refine sR ?_;refine rN ?_;refine rC ?_;refine nR ?_;refine rC ?_;refine rQ (call_r hsp rfl rfl (arg_e (arg_e arg_nil)) (.inl rfl) (fun _ => rfl)) ?_
 refine rQ iS ?_;refine rN ?_;refine rC ?_;refine nR ?_;refine rC ?_;refine reg_new2 (call_h [(0, some _)] hn rfl rfl rfl (arg_ptr rfl rfl arg_nil) ⟨⟨rfl, rfl, _, _, rfl, rfl, .refl _⟩, trivial⟩ rfl rfl (.inl rfl) rfl rfl) rfl ?_
 refine rQ (call_r hk rfl rfl (arg_e arg_nil) (.inl rfl) (fun _ => rfl)) ?_;iterate 5 refine rC ?_
 refine nQ ?_;refine sR ?_;iterate 2 refine rC ?_
 refine nS ?_;refine wG ?_;refine kS ?_;refine sR ?_;iterate 2 refine rC ?_
 refine reg_new2 (call_h [(0, some _)] hcall rfl rfl rfl (arg_ptr rfl rfl arg_nil) ⟨⟨rfl, rfl, _, _, rfl, rfl, .refl _⟩, trivial⟩ rfl rfl (.inl rfl) rfl rfl) rfl ?_
 refine rN ?_;refine rW ?_;refine nQ ?_;refine wc_draw (by kernel_rfl) ?_;refine dQ [7] [224] iM ?_;refine dC [4] [] ?_;refine dreg_w2 [25] [104] rfl (call_h [(0, some _)] he rfl rfl rfl (arg_ptr rfl rfl arg_nil) ⟨⟨rfl, rfl, _, _, rfl, rfl, .refl _⟩, trivial⟩ rfl rfl (.inl rfl) rfl rfl) ?_
 refine dreg_s [2, 24] [64] (store_row tab_ok rfl rfl rfl ⟨_, ⟨rfl, rfl, rfl⟩, rfl⟩ rfl) ?_;refine dC [26] [] ?_;refine dreg_end (by kernel_rfl) ?_;refine seq_n ?_
 refine wc_ret ?_
 exact ⟨trivial, _, rfl, [], lf⟩
end Go.Proofs.YthiijfbcfoifnaaGreatDoor
namespace Go.Proofs.YthiijfbcfoifnaaGreatDoor
open Go.Eng Go.Plain
theorem findC_none {v : List UInt8} (h1 : v ≠ sPick) (h2 : v ≠ sEdit) (h3 : v ≠ sErase) (h4 : v ≠ sReplay) (h5 : v ≠ sFall) : findC v kindL 0 = none := by
 simp [findC, kindL, h1, h2, h3, h4, h5]
theorem act_is (t : List UInt8) (ht : t.length ≤ 1048576) : ∃ a res, ActIs t a res ∧ readA t = if res = true then some a else none := by
 have key : ∀ (a : SAct) (res : Bool), ActIs t a res → (res = true → readA t = some a) → (∀ d, readA t = some d → res = true) → ∃ a res, ActIs t a res ∧ readA t = if res = true then some a else none := by
  intro a res h1 h2 h3
  refine ⟨a, res, h1, ?_⟩
  cases res with
  | true => rw [if_pos rfl]; exact h2 rfl
  | false =>
   rw [if_neg (by decide)]
   cases hq : readA t with
   | none => rfl
   | some d => have := h3 d hq; cases this
 have q0 := split_len ht
 obtain ⟨v, r, hs⟩ : ∃ v r, splitL t 32 = v :: r := by
  cases h : splitL t 32 with
  | nil => exact absurd h (splitL_ne t 32)
  | cons v r => exact ⟨v, r, rfl⟩
 have hr : ∀ w ∈ r, w.length ≤ 1048576 := fun w hw => q0 w (by rw [hs]; simp [hw])
 have hf : (nx (splitL t 32) false).1 = v := by rw [hs]; rfl
 have hq : (nx (splitL t 32) false).2.1 = r := by rw [hs]; rfl
 have hb : (nx (splitL t 32) false).2.2 = false := by rw [hs]; rfl
 by_cases h1 : v = sPick
 ·subst h1
  obtain ⟨⟨n1, r1, b1⟩, e1⟩ : ∃ x, nmb 31 r false = x := ⟨_, rfl⟩
  have hk := kind1_is r false hr
  rw [e1] at hk
  refine key _ _ (action_some t ht 0 _ (by rw [hf]; rfl) _ (r1, b1) (by rw [hq, hb]; exact hk)) (fun h => ?_) (fun d h => ?_)
  ·obtain ⟨rfl, rfl⟩ := endB_true h
   obtain ⟨w1, rfl, _, g1⟩ := nmb_fwd e1
   simp only [readA, hs, if_pos, g1, Option.map_some]
  ·unfold readA at h
   rw [hs] at h
   split at h <;> rename_i hx <;> try cases hx
   ·simp [sPick, sFall] at h
   ·rename_i w1
    cases g1 : numS 31 w1 with
    | none => rw [if_pos rfl, g1] at h; cases h
    | some n => rw [nmb_some g1] at e1; cases e1; rfl
   ·simp [sPick, sEdit, sReplay] at h
   ·cases h
 by_cases h2 : v = sEdit
 ·subst h2
  obtain ⟨⟨n1, r1, b1⟩, e1⟩ : ∃ x, nmb 31 r false = x := ⟨_, rfl⟩
  obtain ⟨⟨m, r2, b2⟩, e2⟩ : ∃ x, byt r1 b1 = x := ⟨_, rfl⟩
  have hk := kind2_is r false hr
  rw [e1] at hk
  simp only [e2] at hk
  refine key _ _ (action_some t ht 1 _ (by rw [hf]; rfl) _ (r2, b2) (by rw [hq, hb]; exact hk)) (fun h => ?_) (fun d h => ?_)
  ·obtain ⟨rfl, rfl⟩ := endB_true h
   obtain ⟨w2, rfl, rfl, g2⟩ := byt_fwd e2
   obtain ⟨w1, rfl, _, g1⟩ := nmb_fwd e1
   simp only [readA, hs, if_pos, g1, g2]
  ·unfold readA at h
   rw [hs] at h
   split at h <;> rename_i hx <;> try cases hx
   ·simp [sEdit, sFall] at h
   ·simp [sEdit, sPick, sErase] at h
   ·rename_i w1 w2
    rw [if_pos rfl] at h
    split at h
    ·rename_i n d' g1 g2
     rw [nmb_some g1] at e1
     cases e1
     rw [byt_some g2] at e2
     cases e2
     rfl
    ·cases h
   ·cases h
 by_cases h3 : v = sErase
 ·subst h3
  obtain ⟨⟨n1, r1, b1⟩, e1⟩ : ∃ x, nmb 31 r false = x := ⟨_, rfl⟩
  have hk := kind3_is r false hr
  rw [e1] at hk
  refine key _ _ (action_some t ht 2 _ (by rw [hf]; rfl) _ (r1, b1) (by rw [hq, hb]; exact hk)) (fun h => ?_) (fun d h => ?_)
  ·obtain ⟨rfl, rfl⟩ := endB_true h
   obtain ⟨w1, rfl, _, g1⟩ := nmb_fwd e1
   simp only [readA, hs, if_neg h1, if_pos, g1, Option.map_some]
  ·unfold readA at h
   rw [hs] at h
   split at h <;> rename_i hx <;> try cases hx
   ·simp [sErase, sFall] at h
   ·rename_i w1
    cases g1 : numS 31 w1 with
    | none => rw [if_neg h1, if_pos rfl, g1] at h; cases h
    | some n => rw [nmb_some g1] at e1; cases e1; rfl
   ·simp [sErase, sEdit, sReplay] at h
   ·cases h
 by_cases h4 : v = sReplay
 ·subst h4
  obtain ⟨⟨n1, r1, b1⟩, e1⟩ : ∃ x, nmb 31 r false = x := ⟨_, rfl⟩
  obtain ⟨⟨n2, r2, b2⟩, e2⟩ : ∃ x, nmb 31 r1 b1 = x := ⟨_, rfl⟩
  have hk := kind4_is r false hr
  rw [e1] at hk
  simp only [e2] at hk
  refine key _ _ (action_some t ht 3 _ (by rw [hf]; rfl) _ (r2, b2) (by rw [hq, hb]; exact hk)) (fun h => ?_) (fun d h => ?_)
  ·obtain ⟨rfl, rfl⟩ := endB_true h
   obtain ⟨w2, rfl, rfl, g2⟩ := nmb_fwd e2
   obtain ⟨w1, rfl, _, g1⟩ := nmb_fwd e1
   simp only [readA, hs, if_neg h2, if_pos, g1, g2]
  ·unfold readA at h
   rw [hs] at h
   split at h <;> rename_i hx <;> try cases hx
   ·simp [sReplay, sFall] at h
   ·simp [sReplay, sPick, sErase] at h
   ·rename_i w1 w2
    rw [if_neg h2, if_pos rfl] at h
    split at h
    ·rename_i n k g1 g2
     rw [nmb_some g1] at e1
     cases e1
     rw [nmb_some g2] at e2
     cases e2
     rfl
    ·cases h
   ·cases h
 by_cases h5 : v = sFall
 ·subst h5
  have hk := kind5_is r false
  refine key _ _ (action_some t ht 4 _ (by rw [hf]; rfl) _ (r, false) (by rw [hq, hb]; exact hk)) (fun h => ?_) (fun d h => ?_)
  ·obtain ⟨rfl, _⟩ := endB_true h
   simp only [readA, hs, if_pos]
  ·unfold readA at h
   rw [hs] at h
   split at h <;> rename_i hx <;> try cases hx
   ·rfl
   ·simp [sFall, sPick, sErase] at h
   ·simp [sFall, sEdit, sReplay] at h
   ·cases h
 ·refine key _ _ (action_none t ht (by rw [hf]; exact findC_none h1 h2 h3 h4 h5)) (fun h => by cases h) (fun d h => ?_)
  unfold readA at h
  rw [hs] at h
  split at h <;> rename_i hx <;> try cases hx
  ·rw [if_neg h5] at h; cases h
  ·rw [if_neg h1, if_neg h3] at h; cases h
  ·rw [if_neg h2, if_neg h4] at h; cases h
  ·cases h
end Go.Proofs.YthiijfbcfoifnaaGreatDoor
namespace Go.Eng
open Go.RowKit
section
variable {P : Program} {T : Tab} {env : Env} {h : Upds} {n : Nat}
theorem slice_mid (hT : TabOk P T) {t e : Nat} {re : TyR} {x i j : Operand} {α : Type} {s : Nat} {enc : α → D} {xs : List α} {k k' : IntKind} {m q : Nat} (ht : tdesc T t = some (.slice e)) (he : lk T e = some re) (hs : Nat.beq re.size s = true)
  (hx : evalA env x = some (.d (.arr s enc xs))) (hi : evalA env i = some (.int k m)) (hj : evalA env j = some (.int k' q)) (h1 : m ≤ q) (h2 : q ≤ xs.length) : StepIs P (.slice t x (some i) (some j) none) env h n (some (.d (.arr s enc ((xs.drop m).take (q - m))))) [] := .of_comes fun C G st σ w a o ho hA hdst hst hn => by
 obtain ⟨ud, hud, hdd⟩ := tdesc_und hT ht
 cases hdd
 have hs := Nat.eq_of_beq_eq_true hs
 obtain ⟨hx1, _⟩ := ev_sound hst (hA.ev hx)
 obtain ⟨hi1, _⟩ := RelV.sc.1 (ev_sound hst (hA.ev hi)).1
 obtain ⟨hj1, _⟩ := RelV.sc.1 (ev_sound hst (hA.ev hj)).1
 have hsz := (hT e re he).run_size (P := P)
 have hlen : ((xs.drop m).take (q - m)).length = q - m := by rw [List.length_take, List.length_drop]; omega
 rcases RelV.arr.1 hx1 with ⟨rfl, hv⟩ | ⟨ad, c, hv, hc1, hc2, f, hf⟩
 ·have hq0 : q = 0 := by simpa using h2
  subst hq0
  have hm0 : m = 0 := by omega
  subst hm0
  refine .quiet (u := .slice none 0 0) hst hdst ⟨rfl, rfl⟩ ?_ (RelV.arr.2 (.inl ⟨rfl, rfl⟩)) trivial
  simp [execOp, ho, Instr.sliceAt, Instr.slice, hv, hi1, hj1, run_underlying hud, Instr.sliceBounds, Instr.sliceBound, asIntOf, hsz, Sem.run_bind, Sem.run_pure, Result.andThen_ok]
 ·refine .quiet (u := .slice (some (if c = m then ad else ad.add (m * s))) (q - m) (c - m)) hst hdst ⟨rfl, rfl⟩ ?_ (RelV.arr.2 (.inr ⟨_, c - m, by rw [hlen], by rw [hlen]; omega, by omega, fun j => f (j + m), fun j hj => ?_⟩)) trivial
  ·have hcm : ¬ c < m := by omega
   have hcq : ¬ c < q := by omega
   have hqm : ¬ q < m := by omega
   simp [execOp, ho, Instr.sliceAt, Instr.slice, hv, hi1, hj1, run_underlying hud, Instr.sliceBounds, Instr.sliceBound, asIntOf, hsz, hs, Sem.run_bind, Sem.run_pure, Result.andThen_ok, hcq, hcm, hqm]
   repeat (first | rw [if_pos (by omega)] | rw [if_neg (by omega)] | (split <;> first | rfl | omega))
  ·have hj2 : j + m < xs.length := by rw [hlen] at hj; omega
   obtain ⟨g1, g2, g3⟩ := hf (j + m) hj2
   refine ⟨by rw [List.getElem_take, List.getElem_drop]; simpa [Nat.add_comm] using g1, g2, fun q' u hu => ?_⟩
   have := g3 q' u hu
   rw [if_neg (by rw [hlen] at hj; omega), add_add, Addr.add_block]
   rw [show m * s + (j * s + q') = (j + m) * s + q' by rw [Nat.add_mul]; omega]
   exact this
end
end Go.Eng
namespace Go.Proofs.YthiijfbcfoifnaaGreatDoor
open Go.Eng Go.Plain Go.RowKit
set_option maxHeartbeats 4000000
set_option maxRecDepth 20000
attribute [local irreducible] WC RegS RegD SeqQ BlkQ ScoQ RegK CutK Sat SatN FnIs LoopQ StepIs OpIs
theorem suffix_last (l : List UInt8) (c : UInt8) : Lib.hasSuffix l [c] = decide (l.getLast? = some c) := by
 rw [Bool.eq_iff_iff, decide_eq_true_eq, Lib.hasSuffix, List.isSuffixOf_iff_suffix, List.getLast?_eq_some_iff]
 exact ⟨fun ⟨t, h⟩ => ⟨t, h.symm⟩, fun ⟨t, h⟩ => ⟨t, h.symm⟩⟩
theorem suffix_is {l : List UInt8} (c : UInt8) (hl : l.length ≤ 9223372036854775807) : FnIs Tryz.prog 45 [.d (strD l), .d (strD [c])] [] (.bool (decide (l.getLast? = some c))) [] :=
 .of_calls1 rfl ⟨_, Tryz.func45, by kernel_rfl, by kernel_rfl⟩ fun σ w X vs ha hg => by
  rw [ha.two]
  refine (Tryz.strings_HasSuffix (mkS l) (mkS [c]) w (by rw [mkS_size]; exact hl)).mono ?_
  rintro e w' ⟨rfl, rfl⟩
  exact ⟨by rw [mkS_data, mkS_data, suffix_last], Below.refl _ _⟩
theorem index_is (ls : List (List UInt8)) (v : List UInt8) (hL : ls.length ≤ 1000000000) : FnIs Tryz.prog 48 [.d (.arr 1 strD ls), .d (strD v)] [] (.int .i64 (idxF (fun x => x == v) ls)) [] := by
 refine fnIs_of tab_ok Tryz.func48 rfl rfl rfl ?_;refine sR ?_;refine rC ?_;refine nQ ?_;refine sR ?_;refine rC ?_;refine rQ iE ?_;refine rC ?_;refine nS ?_;refine wc_block ?_
 refine wc_inv (fun i : Nat => ⟨[(8, .int .i64 i), (7, .int .i64 ls.length), (1, .d (strD v)), (0, .d (.arr 1 strD ls))], [], 72, Tryz.f48.ntmps, 64⟩) (fun i => i ≤ ls.length ∧ ∀ j, j < i → ∀ y, ls[j]? = some y → (y == v) = false) (fun i => ls.length - i) 0 [] ⟨Nat.zero_le _, fun j hj => absurd hj (Nat.not_lt_zero _)⟩
  (.of rfl rfl rfl rfl rfl ⟨⟨_, rfl, .refl _⟩, rfl, ⟨_, rfl, .refl _⟩, rfl, ⟨_, rfl, .refl _⟩, rfl, ⟨_, rfl, .refl _⟩, rfl, trivial⟩ trivial) ?_
 rintro i ⟨hi, hno⟩
 refine wc_of ?_;refine sR ?_;refine rC ?_;refine nQ ?_
 by_cases hlt : i < ls.length
 ·have d1 : decide ((i : Int) < (ls.length : Int)) = true := dT (by omega)
  obtain ⟨x, hx⟩ : ∃ x, ls[i]? = some x := ⟨_, List.getElem?_eq_getElem hlt⟩
  have hx2 : ls[((i : Int)).toNat]? = some x := by rw [Int.toNat_natCast]; exact hx
  by_cases he : v = x
  ·have d2 : decide (v = x) = true := dT he
   rw [idxF_some hx (p := fun x => x == v) (by simp [he]) hno]
   refine wT ?_;refine kS ?_;refine wc_seq ?_;refine wc_block ?_;refine sR ?_;iterate 2 refine rC ?_
   refine nR ?_;iterate 3 refine rC ?_
   refine rQ (index_arr tab_ok rfl rfl rfl rfl rfl (by omega) hx2) ?_;refine rQ iL ?_;refine rQ (eql_s (a := v) (b := x) tab_ok rfl rfl rfl) ?_;refine nS ?_;refine wT ?_
   refine sR ?_;iterate 2 refine rC ?_
   refine nS ?_;refine wc_ret ?_;refine blk_r ?_;refine seq_r ?_;refine loop_r ?_;refine blk_r ?_;refine seq_r ?_
   exact ⟨trivial, [], lf⟩
  ·have d2 : decide (v = x) = false := dF he
   refine wT ?_;refine kS ?_;refine wc_seq ?_;refine wc_block ?_;refine sR ?_;iterate 2 refine rC ?_
   refine nR ?_;iterate 3 refine rC ?_
   refine rQ (index_arr tab_ok rfl rfl rfl rfl rfl (by omega) hx2) ?_;refine rQ iL ?_;refine rQ (eql_s (a := v) (b := x) tab_ok rfl rfl rfl) ?_;refine nS ?_;refine wF ?_
   refine wc_skip ?_;refine blk_n ?_;refine seq_n ?_;refine wc_region ?_;refine rQ iD ?_;refine rC ?_;refine reg_nil ?_
   exact loop_n (i + 1) [] ⟨hlt, fun j hj y hy => by
    by_cases e : j = i
    ·subst e; rw [hx] at hy; cases hy; simpa using fun h => he h.symm
    ·exact hno j (by omega) y hy⟩ (by omega) (.of rfl rfl rfl rfl rfl ⟨⟨_, rfl, .refl _⟩, rfl, ⟨_, rfl, .refl _⟩, rfl, ⟨_, rfl, .refl _⟩, rfl, ⟨_, rfl, .refl _⟩, rfl, trivial⟩ trivial)
 ·have he : i = ls.length := by omega
  subst he
  have d1 : decide ((ls.length : Int) < (ls.length : Int)) = false := dF (by omega)
  rw [idxF_none (p := fun x => x == v) (fun j y hy => hno j ((List.getElem?_eq_some_iff.1 hy).1) y hy)]
  refine wF ?_;refine wc_exit ?_;refine seq_x ?_;refine loop_x ?_;refine blk_x ?_;refine seq_n ?_;refine sR ?_;refine rC ?_;refine nS ?_;refine wc_ret ?_
  exact ⟨trivial, [], lf⟩
theorem clipA_is (l : List SAct) : FnIs Tryz.prog 50 [.d (encAs l)] [] (.d (encXAs l)) [] := by
 refine fnIs_of tab_ok Tryz.func50 rfl rfl rfl ?_;refine sR ?_;refine rC ?_;refine nR ?_;iterate 2 refine rC ?_
 refine rQ iE ?_;refine rC ?_;refine rQ iE ?_;refine rQ (slice_clip_arr tab_ok rfl rfl rfl rfl rfl) ?_;refine rC ?_;refine nS ?_;refine wc_ret ?_
 exact ⟨trivial, [], lf⟩
end Go.Proofs.YthiijfbcfoifnaaGreatDoor
namespace Go.Proofs.YthiijfbcfoifnaaGreatDoor
open Go.Eng Go.Plain
set_option maxHeartbeats 8000000
set_option maxRecDepth 20000
attribute [local irreducible] WC RegS RegD SeqQ BlkQ ScoQ RegK CutK Sat SatN FnIs LoopQ StepIs OpIs
abbrev encScrX (c : SCfg) (l : List (List POp)) (bs : List SAct) : D := .cons (encCfg c) (.cons (.arx 1 encXP l) (.cons (encXAs bs) .nil))
abbrev parSA (x : SScr) (n : Nat) (e : Int) : AV := .tup (.acons (.d (encScrX x.1 x.2.1 x.2.2)) (.acons (.int .i64 n) (.acons (.d (i6 e)) .anil)))
theorem z30_le : DLe r30.zero (encScrX zCfg [] []) := DLe.cons (DLe.of_eq rfl) (DLe.cons (DLe.nil_arx _ _) (DLe.cons (DLe.nil_arx _ _) (.refl _)))
theorem xl_le (l : List (List POp)) : DLe (.arx 1 encXP l) (encPL l) := fun _ _ cs h => Enc.arx_arr (fun _ c hc => Enc.arx_arr (fun _ _ h => h) c hc) cs h
theorem xs_le (c : SCfg) (l : List (List POp)) (bs : List SAct) : DLe (encScrX c l bs) (encScr c l bs) := DLe.cons (.refl _) (DLe.cons (xl_le l) (DLe.cons DLe.arx_arr (.refl _)))
theorem split3 {t : TypeId} {a b x r : D} : RowLe (.box t (.d (.cons a (.cons b (.cons x r))))) (.box t (.acons (.d a) (.acons (.d b) (.acons (.d x) (.d r))))) := by
 rintro σ w X q ⟨_, b', cs, h1, h2, h3⟩
 exact ⟨rfl, b', cs, h1, h2, h3⟩
theorem sparse_long (t : List UInt8) (h : 1048576 < t.length) : FnIs Tryz.prog 15 [.d (strD t)] [] (parSA zScr 0 3) [] := by
 have hd : decide (1048576 < (t.length : Int)) = true := dT (by omega)
 refine fnIs_of tab_ok Tryz.func15 rfl rfl rfl ?_;refine sR ?_;refine rN ?_;iterate 2 refine rC ?_
 refine nQ ?_;refine sR ?_;refine rC ?_;refine rQ (len_s tab_ok rfl rfl) ?_;refine rC ?_;refine nS ?_;refine wT ?_;refine sR ?_;refine rQ iS ?_;refine rW ?_;iterate 2 refine rC ?_
 refine nS ?_;refine wc_ret ?_;refine seq_r ?_
 exact ⟨trivial, _, rfl, [], .of rfl rfl rfl rfl rfl ⟨⟨_, rfl, AVLe.tup1 (AVLe.d z30_le rfl) rfl⟩, rfl, trivial⟩ trivial⟩
theorem sparse_nosuf (t : List UInt8) (h : t.length ≤ 1048576) (hlast : t.getLast? ≠ some 10) : FnIs Tryz.prog 15 [.d (strD t)] [] (parSA zScr 0 5) [] := by
 have hd : decide (1048576 < (t.length : Int)) = false := dF (by omega)
 have hsuf := suffix_is (l := t) 10 (by omega)
 rw [dF hlast] at hsuf
 refine fnIs_of tab_ok Tryz.func15 rfl rfl rfl ?_;refine sR ?_;refine rN ?_;iterate 2 refine rC ?_
 refine nQ ?_;refine sR ?_;refine rC ?_;refine rQ (len_s tab_ok rfl rfl) ?_;refine rC ?_;refine nS ?_;refine wF ?_;refine kS ?_;refine qR ?_;refine rC ?_;refine rQ (call_r hsuf rfl rfl (arg_e (arg_e arg_nil)) (.inl rfl) (fun _ => rfl)) ?_
 refine rC ?_;refine nS ?_;refine wV ?_;refine sR ?_;refine rQ iS ?_;refine rW ?_;iterate 2 refine rC ?_
 refine nS ?_;refine wc_ret ?_;refine seq_r ?_
 exact ⟨trivial, _, rfl, [], .of rfl rfl rfl rfl rfl ⟨⟨_, rfl, AVLe.tup1 (AVLe.d z30_le rfl) rfl⟩, rfl, trivial⟩ trivial⟩
theorem linesT_app (a b : List (List UInt8)) : linesT (a ++ b) = linesT a ++ linesT b := by simp [linesT]
theorem linesT_take (l : List (List UInt8)) (i : Nat) : (linesT (l.take i)).length ≤ (linesT l).length := by
 have := congrArg List.length (linesT_app (l.take i) (l.drop i))
 rw [List.take_append_drop, List.length_append] at this
 omega
theorem linesT_drop (l : List (List UInt8)) (i : Nat) : (linesT (l.drop i)).length ≤ (linesT l).length := by
 have := congrArg List.length (linesT_app (l.take i) (l.drop i))
 rw [List.take_append_drop, List.length_append] at this
 omega
def preA (bs : List SAct) : List SAct ⊕ Nat → List SAct ⊕ Nat
 | .inl l => .inl (bs ++ l)
 | .inr j => .inr j
theorem preA_nil (x : List SAct ⊕ Nat) : preA [] x = x := by cases x <;> rfl
theorem preA_cons (bs : List SAct) (a : SAct) (x : List SAct ⊕ Nat) : preA bs (match x with
  | .inl l => .inl (a :: l)
  | .inr j => .inr j) = preA (bs ++ [a]) x := by cases x <;> simp [preA]
theorem parse_num : ∀ (k : Nat) (s : List UInt8) (l m : List (List POp)) (n j : Nat) (e : Int), s.length ≤ k → parseP s l n = (m, j, e) → j ≤ n + s.length := by
 intro k
 induction k with
 | zero =>
  intro s l m n j e hs h
  have : s = [] := List.length_eq_zero_iff.1 (by omega)
  subst this
  rw [parseP_nil] at h
  cases h
  omega
 | succ k ih =>
  intro s l m n j e hs h
  by_cases hs0 : s = []
  ·subst hs0
   rw [parseP_nil] at h
   cases h
   omega
  ·cases hcut : cutL s 10 with
   | none => rw [parseP_none l _ hs0 hcut] at h; cases h; omega
   | some pq =>
    obtain ⟨t, r⟩ := pq
    rw [parseP_some l _ hs0 hcut] at h
    have hsr := congrArg List.length (cutL_some hcut).1
    simp only [List.length_append, List.length_cons] at hsr
    split at h
    ·have := ih r _ m _ j e (by omega) h
     omega
    ·cases h; omega
abbrev R0 : D := .cons (.sc nil_) (.cons (.sc nil_) .nil)
abbrev rowA (c : SCfg) (l : List (List POp)) (bs : List SAct) (r : Nat) : Row := .box 30 (.acons (.d (encCfg c)) (.acons (.d (.arx 1 encXP l)) (.acons (.own r 0 bs.length 5 none) (.d .nil))))
theorem sparse_main (t : List UInt8) (h : t.length ≤ 1048576) (hlast : t.getLast? = some 10) : FnIs Tryz.prog 15 [.d (strD t)] [] (parSA (parseLs (splitL t.dropLast 10)).1 (parseLs (splitL t.dropLast 10)).2.1 (parseLs (splitL t.dropLast 10)).2.2) [] := by
 have hd : decide (1048576 < (t.length : Int)) = false := dF (by omega)
 have hsuf := suffix_is (l := t) 10 (by omega)
 rw [dT hlast] at hsuf
 have hpos : 0 < t.length := by
  cases t with
  | nil => cases hlast
  | cons a l => simp
 have hdlen : t.dropLast.length = t.length - 1 := List.length_dropLast
 have hw1 : IntKind.i64.wrap ((t.length : Int) - 1) = ((t.length - 1 : Nat) : Int) := by rw [wrap_i64 (by omega) (by omega)]; omega
 have hdl : t.take (t.length - 1) = t.dropLast := List.dropLast_eq_take.symm
 have hsp := split_is (l := t.dropLast) (c := 10) (by omega)
 have hall := split_all 10 t.dropLast
 rw [← last_drop hlast] at hall
 have hlsn := splitL_len t.dropLast 10
 have hmem : ∀ w ∈ splitL t.dropLast 10, w.length ≤ 1048576 := fun w hw => by have := split_mem_le t.dropLast 10 w hw; omega
 obtain ⟨ls, hls⟩ : ∃ ls, splitL t.dropLast 10 = ls := ⟨_, rfl⟩
 rw [hls] at hsp hall hlsn hmem ⊢
 have hTls : linesT ls = t := hall
 have hlsn : ls.length ≤ 1048576 := by omega
 clear hall hls
 refine fnIs_of tab_ok Tryz.func15 rfl rfl rfl ?_;refine sR ?_;refine rN ?_;iterate 2 refine rC ?_
 refine nQ ?_;refine sR ?_;refine rC ?_;refine rQ (len_s tab_ok rfl rfl) ?_;refine rC ?_;refine nS ?_;refine wF ?_;refine kS ?_;refine qR ?_;refine rC ?_;refine rQ (call_r hsuf rfl rfl (arg_e (arg_e arg_nil)) (.inl rfl) (fun _ => rfl)) ?_
 refine rC ?_;refine nS ?_;refine wG ?_;refine kS ?_;refine sR ?_;iterate 2 refine rC ?_
 refine rQ (len_s tab_ok rfl rfl) ?_;refine rQ (sub_int (m := ((t.length - 1 : Nat) : Int)) tab_ok rfl rfl hw1) ?_;refine rQ (str_to (l := t) (hi := t.length - 1) (m := t.dropLast) tab_ok rfl rfl rfl (by omega) hdl) ?_
 refine rQ (call_r hsp rfl rfl (arg_e (arg_e arg_nil)) (.inl rfl) (fun _ => rfl)) ?_;refine rC ?_;refine nQ ?_;refine sR ?_;refine rC ?_;refine nS ?_;refine wc_block ?_
 refine wc_inv (fun x : Nat × SCfg => ⟨[(31, .int .i64 x.1), (5, .d (.arr 1 strD ls)), (2, .ptr 64 [])], [(64, some (rowC x.2 R0))], 72, Tryz.f15.ntmps, 64⟩) (fun x => x.1 ≤ 5 ∧ x.1 ≤ ls.length ∧ headsS 5 0 ls zCfg = headsS (5 - x.1) x.1 (ls.drop x.1) x.2) (fun x => 5 - x.1) (0, zCfg) [(64, some _)] ⟨Nat.zero_le _, Nat.zero_le _, rfl⟩
  (.of rfl rfl rfl rfl rfl ⟨⟨_, rfl, .refl _⟩, rfl, ⟨_, rfl, .refl _⟩, rfl, ⟨_, rfl, .refl _⟩, rfl, trivial⟩ ⟨⟨rfl, rfl, _, rfl, RowLe.of_eq rfl⟩, trivial⟩) ?_
 rintro ⟨i, c⟩ ⟨hi5, hil, hinv⟩
 simp only at hi5 hil hinv
 refine wc_of ?_
 by_cases hi : i < 5
 ·have d1 : decide ((i : Int) < 5) = true := dT (by omega)
  obtain ⟨f, hf⟩ : ∃ f, 5 - i = f + 1 := ⟨4 - i, by omega⟩
  by_cases hlt : i < ls.length
  ·have d2 : decide ((ls.length : Int) ≤ (i : Int)) = false := dF (by omega)
   obtain ⟨x, hx⟩ : ∃ x, ls[i]? = some x := ⟨_, List.getElem?_eq_getElem hlt⟩
   have hx2 : ls[((i : Int)).toNat]? = some x := by rw [Int.toNat_natCast]; exact hx
   have hdr : ls.drop i = x :: ls.drop (i + 1) := by
    rw [List.drop_eq_getElem_cons hlt]
    rw [List.getElem?_eq_getElem hlt] at hx
    rw [Option.some.inj hx]
   obtain ⟨res, c', hh, hq⟩ := head_is i hi x c R0 (hmem x (List.mem_of_getElem? hx))
   rw [hf, hdr, headsS, hq] at hinv
   unfold HeadIs at hh
   cases res with
   | true =>
    refine sR ?_;refine rC ?_;refine nQ ?_;refine wT ?_;refine kS ?_;refine wc_seq ?_;refine wc_block ?_;refine sR ?_;iterate 2 refine rC ?_
    refine nR ?_;iterate 2 refine rC ?_
    refine rQ iE ?_;iterate 2 refine rC ?_
    refine rO ?_;refine rC ?_;refine rO ?_;refine rC ?_;refine rO ?_;refine rC ?_;refine rO ?_;refine rQ (index_arr tab_ok rfl rfl rfl rfl rfl (by omega) hx2) ?_;refine rO ?_
    refine rQ iL ?_;refine rO ?_;refine rC ?_;refine rO ?_;refine reg_new2 (call_h [(0, some 64)] hh rfl rfl rfl (arg_e (arg_e (arg_ptr rfl rfl arg_nil))) ⟨⟨rfl, rfl, _, _, rfl, rfl, .refl _⟩, trivial⟩ rfl rfl (.inl rfl) rfl rfl) rfl ?_
    refine rO ?_;refine rC ?_;refine rQ iF ?_;refine nS ?_;refine wG ?_;refine wc_skip ?_;refine blk_n ?_;refine seq_n ?_;refine wc_region ?_;refine rQ iD ?_;refine rC ?_
    refine reg_nil ?_
    exact loop_n (i + 1, c') [] ⟨hi, hlt, by rw [hinv, if_pos rfl]; show headsS f (i + 1) _ _ = headsS (5 - (i + 1)) (i + 1) _ _; rw [show 5 - (i + 1) = f by omega]⟩ (by show 5 - (i + 1) < 5 - i; omega) (.of rfl rfl rfl rfl rfl ⟨⟨_, rfl, .refl _⟩, rfl, ⟨_, rfl, .refl _⟩, rfl, ⟨_, rfl, .refl _⟩, rfl, trivial⟩ ⟨⟨rfl, rfl, _, rfl, .refl _⟩, trivial⟩)
   | false =>
    rw [show parseLs ls = (zScr, i + 1, 5) by unfold parseLs; rw [hinv, if_neg (by decide)]]
    refine sR ?_;refine rC ?_;refine nQ ?_;refine wT ?_;refine kS ?_;refine wc_seq ?_;refine wc_block ?_;refine sR ?_;iterate 2 refine rC ?_
    refine nR ?_;iterate 2 refine rC ?_
    refine rQ iE ?_;iterate 2 refine rC ?_
    refine rO ?_;refine rC ?_;refine rO ?_;refine rC ?_;refine rO ?_;refine rC ?_;refine rO ?_;refine rQ (index_arr tab_ok rfl rfl rfl rfl rfl (by omega) hx2) ?_;refine rO ?_
    refine rQ iL ?_;refine rO ?_;refine rC ?_;refine rO ?_;refine reg_new2 (call_h [(0, some 64)] hh rfl rfl rfl (arg_e (arg_e (arg_ptr rfl rfl arg_nil))) ⟨⟨rfl, rfl, _, _, rfl, rfl, .refl _⟩, trivial⟩ rfl rfl (.inl rfl) rfl rfl) rfl ?_
    refine rO ?_;refine rC ?_;refine rQ iF ?_;refine nS ?_;refine wV ?_;refine sR ?_;refine rQ iS ?_;refine rC ?_;refine rQ iD ?_;refine rW ?_;iterate 2 refine rC ?_
    refine nS ?_;refine wc_ret ?_;refine blk_r ?_;refine seq_r ?_;refine loop_r ?_;refine blk_r ?_;refine seq_r ?_
    exact ⟨trivial, _, rfl, [], .of rfl rfl rfl rfl rfl ⟨⟨_, rfl, AVLe.tup1 (AVLe.d z30_le rfl) rfl⟩, rfl, trivial⟩ trivial⟩
  ·have d2 : decide ((ls.length : Int) ≤ (i : Int)) = true := dT (by omega)
   rw [hf, List.drop_eq_nil_of_le (by omega), headsS] at hinv
   rw [show parseLs ls = (zScr, i + 1, 5) by unfold parseLs; rw [hinv]]
   refine sR ?_;refine rC ?_;refine nQ ?_;refine wT ?_;refine kS ?_;refine wc_seq ?_;refine wc_block ?_;refine sR ?_;iterate 2 refine rC ?_
   refine nR ?_;iterate 2 refine rC ?_
   refine rQ iE ?_;iterate 2 refine rC ?_
   iterate 8 refine rS ?_
   refine rQ iT ?_;refine nS ?_;refine wV ?_;refine sR ?_;refine rQ iS ?_;refine rC ?_;refine rQ iD ?_;refine rW ?_;iterate 2 refine rC ?_
   refine nS ?_;refine wc_ret ?_;refine blk_r ?_;refine seq_r ?_;refine loop_r ?_;refine blk_r ?_;refine seq_r ?_
   exact ⟨trivial, _, rfl, [], .of rfl rfl rfl rfl rfl ⟨⟨_, rfl, AVLe.tup1 (AVLe.d z30_le rfl) rfl⟩, rfl, trivial⟩ trivial⟩
 have hi5 : i = 5 := by omega
 subst hi5
 have d1 : decide (((5 : Nat) : Int) < 5) = false := rfl
 have h5 := hil
 have hinv : headsS 5 0 ls zCfg = .inl c := hinv
 have hix := index_is (ls.drop 5) sActions (by rw [List.length_drop]; omega)
 cases hk : (ls.drop 5).findIdx? (fun x => x == sActions) with
 | none =>
  simp only [idxF, hk] at hix
  rw [show parseLs ls = (zScr, ls.length + 1, 5) by unfold parseLs; rw [hinv]; simp only [hk]]
  have d2 : decide ((-1 : Int) < 0) = true := rfl
  refine sR ?_;refine rC ?_;refine nQ ?_;refine wG ?_;refine wc_exit ?_;refine seq_x ?_;refine loop_x ?_;refine blk_x ?_;refine seq_n ?_;refine sR ?_;refine rC ?_
  refine rQ (slice_from (m := 5) tab_ok rfl rfl rfl rfl rfl h5) ?_;refine rQ (call_r hix rfl rfl (arg_e (arg_e arg_nil)) (.inl rfl) (fun _ => rfl)) ?_;refine rC ?_
  refine nQ ?_;refine sR ?_;iterate 2 refine rC ?_
  refine nS ?_;refine wV ?_;refine sR ?_;refine rQ iS ?_;refine rC ?_;refine rQ iE ?_;refine rQ iD ?_;refine rW ?_;iterate 2 refine rC ?_
  refine nS ?_;refine wc_ret ?_;refine seq_r ?_
  exact ⟨trivial, _, rfl, [], .of rfl rfl rfl rfl rfl ⟨⟨_, rfl, AVLe.tup1 (AVLe.d z30_le rfl) rfl⟩, rfl, trivial⟩ trivial⟩
 | some k =>
 simp only [idxF, hk] at hix
 have hkl : k < ls.length - 5 := by
  have := (List.findIdx?_eq_some_iff_getElem.1 hk).1
  rwa [List.length_drop] at this
 have h5k : 5 + k ≤ ls.length := by omega
 have d2 : decide ((k : Int) < 0) = false := dF (by omega)
 refine sR ?_;refine rC ?_;refine nQ ?_;refine wG ?_;refine wc_exit ?_;refine seq_x ?_;refine loop_x ?_;refine blk_x ?_;refine seq_n ?_;refine sR ?_;refine rC ?_
 refine rQ (slice_from (m := 5) tab_ok rfl rfl rfl rfl rfl h5) ?_;refine rQ (call_r hix rfl rfl (arg_e (arg_e arg_nil)) (.inl rfl) (fun _ => rfl)) ?_;refine rC ?_
 refine nQ ?_;refine sR ?_;iterate 2 refine rC ?_
 refine nS ?_;refine wG ?_;refine kS ?_;refine sR ?_;refine rC ?_;refine nQ ?_;refine sR ?_;iterate 2 refine rC ?_
 refine rQ iD ?_;refine rQ (slice_mid (m := 5) (q := 5 + k) tab_ok rfl rfl rfl rfl rfl rfl (by omega) h5k) ?_;refine rQ iE ?_;refine rC ?_;refine nS ?_;refine wc_block ?_
 obtain ⟨mid, hmid⟩ : ∃ m, (ls.drop 5).take (5 + k - 5) = m := ⟨_, rfl⟩
 rw [hmid]
 have hmid2 : mid = (ls.drop 5).take k := by rw [← hmid, show 5 + k - 5 = k by omega]
 have hmlen : (linesT mid).length ≤ t.length := by
  rw [hmid2, ← hTls]
  exact Nat.le_trans (linesT_take _ _) (linesT_drop _ _)
 have hml : mid.length ≤ 1048576 := by rw [hmid2, List.length_take, List.length_drop]; omega
 have hmem2 : ∀ w ∈ mid, w.length ≤ 1048576 := fun w hw => hmem w (by rw [hmid2] at hw; exact List.mem_of_mem_drop (List.mem_of_mem_take hw))
 refine wc_inv (fun j : Nat => ⟨[(66, .int .i64 j), (65, .int .i64 mid.length), (64, .d (.arr 1 strD mid)), (8, .d (strD (linesT (mid.take j)))), (7, .int .i64 k), (5, .d (.arr 1 strD ls)), (2, .ptr 64 [])], [(64, some (rowC c R0))], 72, Tryz.f15.ntmps, 64⟩) (fun j => j ≤ mid.length) (fun j => mid.length - j) 0 [] (Nat.zero_le _)
  (.of rfl rfl rfl rfl rfl ⟨⟨_, rfl, .refl _⟩, rfl, ⟨_, rfl, .refl _⟩, rfl, ⟨_, rfl, .refl _⟩, rfl, ⟨_, rfl, .refl _⟩, rfl, ⟨_, rfl, .refl _⟩, rfl, ⟨_, rfl, .refl _⟩, rfl, ⟨_, rfl, .refl _⟩, rfl, trivial⟩ ⟨⟨rfl, rfl, _, rfl, .refl _⟩, trivial⟩) ?_
 intro j hj
 refine wc_of ?_
 by_cases hjl : j < mid.length
 ·have d3 : decide ((j : Int) < (mid.length : Int)) = true := dT (by omega)
  obtain ⟨x, hx⟩ : ∃ x, mid[j]? = some x := ⟨_, List.getElem?_eq_getElem hjl⟩
  have hx2 : mid[((j : Int)).toNat]? = some x := by rw [Int.toNat_natCast]; exact hx
  have hxl := hmem2 x (List.mem_of_getElem? hx)
  have htk := linesT_take mid j
  have hl72 : x.length + [(10 : UInt8)].length ≤ 9223372036854775807 := by simp; omega
  have hl73 : (linesT (mid.take j)).length + (x ++ [10]).length ≤ 9223372036854775807 := by simp; omega
  have hm73 : linesT (mid.take j) ++ (x ++ [10]) = linesT (mid.take (j + 1)) := by rw [List.take_add_one, hx, Option.toList_some, linesT_app]; simp [linesT]
  refine sR ?_;refine rC ?_;refine nQ ?_;refine wT ?_;refine kS ?_;refine wc_seq ?_;refine wc_block ?_;refine sR ?_;refine rQ (index_arr tab_ok rfl rfl rfl rfl rfl (by omega) hx2) ?_
  refine rQ iL ?_;refine rC ?_;refine nS ?_;refine wc_region ?_;iterate 2 refine rC ?_
  refine rQ (add_str (a := x) (b := [10]) rfl rfl hl72 rfl) ?_;refine rQ (add_str (a := linesT (mid.take j)) (b := x ++ [10]) rfl rfl hl73 hm73) ?_;refine rC ?_;refine reg_nil ?_
  refine blk_n ?_;refine seq_n ?_;refine wc_region ?_;refine rQ iD ?_;refine rC ?_;refine reg_nil ?_
  exact loop_n (j + 1) [] hjl (by omega) (.of rfl rfl rfl rfl rfl ⟨⟨_, rfl, .refl _⟩, rfl, ⟨_, rfl, .refl _⟩, rfl, ⟨_, rfl, .refl _⟩, rfl, ⟨_, rfl, .refl _⟩, rfl, ⟨_, rfl, .refl _⟩, rfl, ⟨_, rfl, .refl _⟩, rfl, ⟨_, rfl, .refl _⟩, rfl, trivial⟩ ⟨⟨rfl, rfl, _, rfl, .refl _⟩, trivial⟩)
 have hje : j = mid.length := by omega
 subst hje
 have d3 : decide ((mid.length : Int) < (mid.length : Int)) = false := dF (by omega)
 rw [List.take_length]
 have hpp := parse_is (linesT mid) (by omega)
 obtain ⟨⟨l, n, e⟩, hpe⟩ : ∃ x, parseP (linesT mid) [] 1 = x := ⟨_, rfl⟩
 rw [hpe] at hpp
 simp only at hpp
 have hfd : (ls.drop 5).findIdx? (· == sActions) = some k := hk
 have hpl : parseLs ls = if e ≠ 0 then (zScr, n + 5, e) else match actsS (ls.drop (6 + k)) (6 + k) with
    | .inr i => (zScr, i + 1, 5)
    | .inl bs => if schk c l bs ≠ 0 then (zScr, 0, schk c l bs) else ((c, l, bs), 0, 0) := by
  unfold parseLs
  rw [hinv]
  simp only [hfd]
  rw [← hmid2, hpe]
  rfl
 by_cases he : e = 0
 ·subst he
  have d4 : (!decide ((0 : Int) = 0)) = false := rfl
  rw [hpl, if_neg (fun h => h rfl)]
  obtain ⟨p1, p2, p3, p4⟩ := parse_out _ _ [] _ 1 _ (Nat.le_refl _) (by decide) (by intro p hp; cases hp) hpe
  refine sR ?_;refine rC ?_;refine nQ ?_;refine wF ?_;refine wc_exit ?_;refine seq_x ?_;refine loop_x ?_;refine blk_x ?_;refine seq_n ?_;refine sR ?_;refine rC ?_
  refine rQ (call_r hpp rfl rfl (arg_e arg_nil) (.inl rfl) (fun _ => rfl)) ?_;iterate 7 refine rC ?_
  refine nQ ?_;refine sR ?_;iterate 2 refine rC ?_
  refine nS ?_;refine wG ?_;refine kS ?_;refine sR ?_;iterate 2 refine rC ?_
  refine rX ?_;refine nQ ?_;refine sR ?_;refine rC ?_;refine rQ iD ?_;refine rC ?_;refine nS ?_;refine wc_block ?_
  refine wc_inv (fun x : Nat × List SAct => ⟨[(13, .int .i64 x.1), (5, .d (.arr 1 strD ls)), (2, .ptr 64 [])], [(64, some (rowA c l x.2 65)), (65, some (.ds 39 5 false encAct x.2))], 72, Tryz.f15.ntmps, 64⟩) (fun x => x.1 ≤ ls.length ∧ x.2.length ≤ x.1 ∧ actsS (ls.drop (6 + k)) (6 + k) = preA x.2 (actsS (ls.drop x.1) x.1)) (fun x => ls.length - x.1) (6 + k, []) [(65, none)] ⟨by show 6 + k ≤ ls.length; omega, Nat.zero_le _, (preA_nil _).symm⟩
   (.of rfl rfl rfl rfl rfl ⟨⟨_, rfl, .refl _⟩, rfl, ⟨_, rfl, .refl _⟩, rfl, ⟨_, rfl, .refl _⟩, rfl, trivial⟩ ⟨⟨rfl, rfl, _, rfl, split3⟩, ⟨rfl, rfl, rfl⟩, trivial⟩) ?_
  rintro ⟨i, bs⟩ ⟨hi, hbi, hac0⟩
  simp only at hi hbi hac0
  refine wc_of ?_
  by_cases hlt : i < ls.length
  ·have d5 : decide ((i : Int) < (ls.length : Int)) = true := dT (by omega)
   obtain ⟨x, hx⟩ : ∃ x, ls[i]? = some x := ⟨_, List.getElem?_eq_getElem hlt⟩
   have hx2 : ls[((i : Int)).toNat]? = some x := by rw [Int.toNat_natCast]; exact hx
   have hdr : ls.drop i = x :: ls.drop (i + 1) := by
    rw [List.drop_eq_getElem_cons hlt]
    rw [List.getElem?_eq_getElem hlt] at hx
    rw [Option.some.inj hx]
   have hlen : bs.length + 1 ≤ 1048576 := by omega
   obtain ⟨a, res, hac, hq⟩ := act_is x (hmem x (List.mem_of_getElem? hx))
   unfold ActIs at hac
   rw [hdr, actsS, hq] at hac0
   cases res with
   | true =>
    rw [if_pos rfl] at hac0
    have hac1 : actsS (ls.drop (6 + k)) (6 + k) = preA (bs ++ [a]) (actsS (ls.drop (i + 1)) (i + 1)) := hac0.trans (preA_cons bs a _)
    refine qR ?_;iterate 2 refine rC ?_
    refine rQ iE ?_;refine rC ?_;refine nS ?_;refine wT ?_;refine kS ?_;refine wc_seq ?_;refine wc_block ?_;refine sR ?_;iterate 2 refine rC ?_
    refine rQ (index_arr tab_ok rfl rfl rfl rfl rfl (by omega) hx2) ?_;refine rQ iL ?_;refine rQ (call_r hac rfl rfl (arg_e arg_nil) (.inl rfl) (fun _ => rfl)) ?_;iterate 3 refine rC ?_
    refine rN ?_;refine rW ?_;refine rC ?_;refine nQ ?_;refine sR ?_;iterate 2 refine rC ?_
    refine nS ?_;refine wG ?_;refine kS ?_;refine wc_region ?_;refine rC ?_;iterate 2 refine rQ iM ?_
    refine reg_new (build_slice (s := 5) tab_ok rfl rfl rfl rfl rfl rfl rfl rfl) rfl ?_;refine reg_new2 (append_one (xs := bs) (s := 5) (enc := encAct) tab_ok a rfl rfl rfl rfl rfl rfl rfl rfl rfl hlen rfl) rfl ?_
    refine rC ?_;refine reg_store (store_row tab_ok rfl rfl rfl ⟨_, ⟨_, ⟨rfl, rfl, rfl⟩, rfl⟩, rfl⟩ rfl) ?_;refine reg_nil ?_;refine blk_n ?_;refine seq_n ?_;refine wc_region ?_
    refine rC ?_;refine rQ iD ?_;refine rC ?_;refine reg_nil ?_
    exact loop_n (i + 1, bs ++ [a]) [(65, some 240)] ⟨hlt, by simp; omega, hac1⟩ (by show ls.length - (i + 1) < ls.length - i; omega) (.of rfl rfl rfl rfl rfl ⟨⟨_, rfl, .refl _⟩, rfl, ⟨_, rfl, .refl _⟩, rfl, ⟨_, rfl, .refl _⟩, rfl, trivial⟩ ⟨⟨rfl, rfl, _, rfl, RowLe.of_eq (by rw [rowA, List.length_append]; rfl)⟩, ⟨rfl, rfl, _, rfl, .refl _⟩, trivial⟩)
   | false =>
    rw [if_neg (by decide)] at hac0
    rw [hac0]
    refine qR ?_;iterate 2 refine rC ?_
    refine rQ iE ?_;refine rC ?_;refine nS ?_;refine wT ?_;refine kS ?_;refine wc_seq ?_;refine wc_block ?_;refine sR ?_;iterate 2 refine rC ?_
    refine rQ (index_arr tab_ok rfl rfl rfl rfl rfl (by omega) hx2) ?_;refine rQ iL ?_;refine rQ (call_r hac rfl rfl (arg_e arg_nil) (.inl rfl) (fun _ => rfl)) ?_;iterate 3 refine rC ?_
    refine rN ?_;refine rW ?_;refine rC ?_;refine nQ ?_;refine sR ?_;iterate 2 refine rC ?_
    refine nS ?_;refine wV ?_;refine sR ?_;refine rQ iS ?_;refine rC ?_;refine rQ iD ?_;refine rW ?_;iterate 2 refine rC ?_
    refine nS ?_;refine wc_ret ?_;refine seq_r ?_;refine blk_r ?_;refine seq_r ?_;refine loop_r ?_;refine blk_r ?_;refine seq_r ?_
    exact ⟨trivial, _, rfl, [], .of rfl rfl rfl rfl rfl ⟨⟨_, rfl, AVLe.tup1 (AVLe.d z30_le rfl) rfl⟩, rfl, trivial⟩ trivial⟩
  ·have d5 : decide ((i : Int) < (ls.length : Int)) = false := dF (by omega)
   rw [show ls.drop i = [] from List.drop_eq_nil_of_le (by omega), actsS] at hac0
   rw [hac0]
   simp only [preA, List.append_nil]
   refine wc_freeze (env' := [(13, _), (5, _), (2, _)]) (h' := [(64, some _)]) 65 _ rfl ⟨⟨_, rfl, .refl _⟩, ⟨_, rfl, .refl _⟩, ⟨_, rfl, .refl _⟩, trivial⟩ ⟨⟨rfl, _, rfl, FrzR.box (Frz.dcons (.refl _) (Frz.dcons (.refl _) (Frz.dcons (Frz.own rfl) (.refl _))))⟩, trivial⟩ ?_
   obtain ⟨_, _, hcw⟩ := heads_inv hinv
   have hck := scheck_is c l bs hcw.ok (bd_chk p3) (by omega)
   have hle : DLe (.cons (encCfg c) (.cons (.arx 1 encXP l) (.cons (encAs bs) .nil))) (encScr c l bs) := DLe.cons (.refl _) (DLe.cons (xl_le l) (.refl _))
   have hcl := clipA_is bs
   obtain ⟨e5, he5⟩ : ∃ x, schk c l bs = x := ⟨_, rfl⟩
   rw [he5] at hck ⊢
   by_cases h5z : e5 = 0
   ·subst h5z
    have d6 : (!decide ((0 : Int) = 0)) = false := rfl
    rw [if_neg (fun h => h rfl)]
    refine qR ?_;iterate 2 refine rC ?_
    refine rQ iE ?_;refine rC ?_;refine nS ?_;refine wF ?_;refine wc_exit ?_;refine seq_x ?_;refine loop_x ?_;refine blk_x ?_;refine seq_n ?_;refine qR ?_;refine rQ iM ?_
    refine rQ (call_r hck rfl rfl (arg_d rfl trivial hle arg_nil) (.inl rfl) (fun _ => rfl)) ?_;refine rC ?_;refine nR ?_;iterate 2 refine rC ?_
    refine nS ?_;refine wG ?_;refine kS ?_;refine sR ?_;refine rC ?_;refine rQ iB ?_;refine rQ (call_r hcl rfl rfl (arg_e arg_nil) (.inl rfl) (fun _ => rfl)) ?_;refine rC ?_
    refine rX ?_;refine nR ?_;refine rQ iM ?_;refine rW ?_;iterate 2 refine rC ?_
    refine nS ?_;refine wc_ret ?_
    exact ⟨trivial, _, rfl, [], lf⟩
   ·have d6 : (!decide (e5 = 0)) = true := by rw [dF h5z]; rfl
    rw [if_pos h5z]
    refine qR ?_;iterate 2 refine rC ?_
    refine rQ iE ?_;refine rC ?_;refine nS ?_;refine wF ?_;refine wc_exit ?_;refine seq_x ?_;refine loop_x ?_;refine blk_x ?_;refine seq_n ?_;refine qR ?_;refine rQ iM ?_
    refine rQ (call_r hck rfl rfl (arg_d rfl trivial hle arg_nil) (.inl rfl) (fun _ => rfl)) ?_;refine rC ?_;refine nR ?_;iterate 2 refine rC ?_
    refine nS ?_;refine wT ?_;refine sR ?_;refine rQ iS ?_;refine rC ?_;refine rW ?_;iterate 2 refine rC ?_
    refine nS ?_;refine wc_ret ?_;refine seq_r ?_
    exact ⟨trivial, _, rfl, [], .of rfl rfl rfl rfl rfl ⟨⟨_, rfl, AVLe.tup1 (AVLe.d z30_le rfl) rfl⟩, rfl, trivial⟩ trivial⟩
 ·have d4 : (!decide (e = 0)) = true := by rw [dF he]; rfl
  rw [hpl, if_pos he]
  have hnn := parse_num _ _ _ _ _ _ _ (Nat.le_refl _) hpe
  refine sR ?_;refine rC ?_;refine nQ ?_;refine wF ?_;refine wc_exit ?_;refine seq_x ?_;refine loop_x ?_;refine blk_x ?_;refine seq_n ?_;refine sR ?_;refine rC ?_
  refine rQ (call_r hpp rfl rfl (arg_e arg_nil) (.inl rfl) (fun _ => rfl)) ?_;iterate 7 refine rC ?_
  refine nQ ?_;refine sR ?_;iterate 2 refine rC ?_
  refine nS ?_;refine wT ?_;refine sR ?_;refine rQ iS ?_;refine rC ?_;refine rQ iD ?_;refine rC ?_;refine rW ?_;iterate 2 refine rC ?_
  refine nS ?_;refine wc_ret ?_;refine seq_r ?_
  exact ⟨trivial, _, rfl, [], .of rfl rfl rfl rfl rfl ⟨⟨_, rfl, AVLe.tup1 (AVLe.d z30_le rfl) rfl⟩, rfl, trivial⟩ trivial⟩
def parseX (t : List UInt8) : SScr × Nat × Int := if 1048576 < t.length then (zScr, 0, 3) else parseS t
theorem sparse_is (t : List UInt8) : FnIs Tryz.prog 15 [.d (strD t)] [] (parSA (parseX t).1 (parseX t).2.1 (parseX t).2.2) [] := by
 by_cases h : 1048576 < t.length
 ·rw [show parseX t = (zScr, 0, 3) from if_pos h]
  exact sparse_long t h
 rw [show parseX t = parseS t from if_neg h]
 by_cases hl : t.getLast? = some 10
 ·rw [parseS, if_pos hl]
  exact sparse_main t (by omega) hl
 ·rw [parseS, if_neg hl]
  exact sparse_nosuf t (by omega) hl
end Go.Proofs.YthiijfbcfoifnaaGreatDoor
namespace Go.Proofs.YthiijfbcfoifnaaGreatDoor
open Go.Eng Go.Plain
def encV : Bool × POp → D
 | (true, o) => .cons (u8s o.kind) (.cons (i6 o.index) (.cons (.sc nil_) .nil))
 | (false, o) => encPOp o
def VOk (x : Bool × POp) : Prop := x.1 = true → x.2.data = []
theorem dle_arr {α β : Type} {s : Nat} {enc : α → D} {enc' : β → D} {g : α → β} {xs : List α} {ys : List β} (hy : ys = xs.map g) (h : ∀ x ∈ xs, DLe (enc x) (enc' (g x))) : DLe (.arr s enc xs) (.arr s enc' ys) := by
 subst hy
 rintro w X cs (⟨rfl, rfl⟩ | ⟨a, c, rfl, h1, h2, f, hf⟩)
 ·exact .inl ⟨rfl, rfl⟩
 ·refine .inr ⟨a, c, by rw [List.length_map], by rw [List.length_map]; exact h1, h2, f, fun i hi => ?_⟩
  rw [List.length_map] at hi
  obtain ⟨g1, g2, g3⟩ := hf i hi
  refine ⟨?_, g2, g3⟩
  rw [List.getElem_map]
  exact h _ (List.getElem_mem _) _ _ _ g1
abbrev encPV (l : List (Bool × POp)) : D := .arr 3 encV l
end Go.Proofs.YthiijfbcfoifnaaGreatDoor
namespace Go.Eng
open Go.RowKit
section
variable {P : Program} {T : Tab} {env : Env} {h : Upds} {n : Nat}
end
end Go.Eng
namespace Go.Proofs.YthiijfbcfoifnaaGreatDoor
open Go.Eng Go.Plain
set_option maxHeartbeats 4000000
set_option maxRecDepth 20000
attribute [local irreducible] WC RegS RegD SeqQ BlkQ ScoQ RegK CutK Sat SatN FnIs LoopQ StepIs OpIs
theorem hexD_cut {d : Nat} (h : d < 16) : (hexD.drop d).take (d + 1 - d) = [hexC d] := by
 have : ∀ d, d < 16 → (hexD.drop d).take (d + 1 - d) = [hexC d] := by decide
 exact this d h
theorem rhex34_is (l : List UInt8) (hL : l.length ≤ 1000000000) : FnIs Tryz.prog 28 [.d (encB l)] [] (.d (strD (hexP l))) [] := by
 have hbl : (byI l).length = l.length := byI_len l
 refine fnIs_of tab_ok Tryz.func28 rfl rfl rfl ?_
 by_cases hn : l = []
 ·have hd : decide (((byI l).length : Int) = 0) = true := by rw [hn]; rfl
  rw [show hexP l = [45] from if_pos hn]
  refine sR ?_;refine rC ?_;refine nQ ?_;refine sR ?_;refine rC ?_;refine rQ iE ?_;refine rC ?_;refine nS ?_;refine wT ?_;refine sR ?_;refine rC ?_;refine nS ?_;refine wc_ret ?_
  refine seq_r ?_
  exact ⟨trivial, [], lf⟩
 have hpos : 0 < l.length := List.length_pos_iff.2 hn
 have hd : decide (((byI l).length : Int) = 0) = false := dF (by omega)
 refine sR ?_;refine rC ?_;refine nQ ?_;refine sR ?_;refine rC ?_;refine rQ iE ?_;refine rC ?_;refine nS ?_;refine wF ?_;refine kS ?_;refine sR ?_;refine rC ?_;refine nQ ?_
 refine sR ?_;refine rC ?_;refine nS ?_;refine wc_block ?_
 refine wc_inv (fun i : Nat => ⟨[(4, .int .i64 i), (3, .d (strD ((l.take i).flatMap hexB))), (0, .d (encB l))], [], 72, Tryz.f28.ntmps, 64⟩) (fun i => i ≤ l.length) (fun i => l.length - i) 0 [] (Nat.zero_le _)
  (.of rfl rfl rfl rfl rfl ⟨⟨_, rfl, .refl _⟩, rfl, ⟨_, rfl, .refl _⟩, rfl, ⟨_, rfl, .refl _⟩, rfl, trivial⟩ trivial) ?_
 intro i hi
 refine wc_of ?_
 by_cases hlt : i < l.length
 ·have d1 : decide ((i : Int) < ((byI l).length : Int)) = true := dT (by omega)
  obtain ⟨b, hb⟩ : ∃ b, l[i]? = some b := ⟨_, List.getElem?_eq_getElem hlt⟩
  have hb' : (byI l)[((i : Int)).toNat]? = some (b.toNat : Int) := by rw [Int.toNat_natCast]; exact byI_get hb
  have hb8 : b.toNat < 256 := b.toNat_lt
  have hw16 : IntKind.u8.wrap ((b.toNat / 16 : Nat) : Int) = ((b.toNat / 16 : Nat) : Int) := wrap_u8n (by omega)
  have hw1 : IntKind.u8.wrap (((b.toNat / 16 : Nat) : Int) + 1) = ((b.toNat / 16 + 1 : Nat) : Int) := wrap_u8n (a := b.toNat / 16 + 1) (by omega)
  have hw2 : IntKind.u8.wrap (((b.toNat % 16 : Nat) : Int) + 1) = ((b.toNat % 16 + 1 : Nat) : Int) := wrap_u8n (a := b.toNat % 16 + 1) (by omega)
  have hle1 : b.toNat / 16 + 1 ≤ hexD.length := by show _ ≤ 16; omega
  have hle2 : b.toNat % 16 + 1 ≤ hexD.length := by show _ ≤ 16; omega
  have hcut1 := hexD_cut (d := b.toNat / 16) (by omega)
  have hcut2 := hexD_cut (d := b.toNat % 16) (by omega)
  have hpl : ((l.take i).flatMap hexB).length = 2 * i := by rw [hexB_len, List.length_take, Nat.min_eq_left hi]
  have hlen1 : ((l.take i).flatMap hexB).length + [hexC (b.toNat / 16)].length ≤ 9223372036854775807 := by rw [hpl]; simp; omega
  have hlen2 : ((l.take i).flatMap hexB ++ [hexC (b.toNat / 16)]).length + [hexC (b.toNat % 16)].length ≤ 9223372036854775807 := by rw [List.length_append, hpl]; simp; omega
  have hgo := hex_take hb
  refine qR ?_;iterate 2 refine rC ?_
  refine rQ iE ?_;refine rC ?_;refine nS ?_;refine wT ?_;refine kS ?_;refine wc_seq ?_;refine wc_block ?_;refine wc_seq ?_;refine wc_draw (by kernel_rfl) ?_;refine dC [0] [] ?_
  refine dC [4] [] ?_;refine dQ [16, 17] [] iA ?_;refine dQ [18] [] iL ?_;refine dQ [19] [] (quo_nat (a := b.toNat) (b := 16) tab_ok rfl rfl rfl (by decide) hw16) ?_
  refine dC [0] [] ?_;refine dC [4] [] ?_;refine dQ [21, 22] [] iA ?_;refine dQ [23] [] iL ?_;refine dQ [24] [] (rem_nat (a := b.toNat) (b := 16) tab_ok rfl rfl rfl (by decide)) ?_
  refine dC [20] [] ?_;refine dC [25] [] ?_;refine dreg_end (by kernel_rfl) ?_;refine seq_n ?_;refine wc_draw (by kernel_rfl) ?_;refine dC [3] [] ?_;iterate 2 refine dC [5] [] ?_
  refine dQ [28] [] (add_int (m := ((b.toNat / 16 + 1 : Nat) : Int)) tab_ok rfl rfl hw1) ?_;refine dQ [27, 29] [] (str_mid (l := hexD) (lo := b.toNat / 16) (hi := b.toNat / 16 + 1) tab_ok rfl rfl rfl rfl hle1 (by omega) hcut1) ?_
  refine dQ [26, 30] [] (add_str (a := (l.take i).flatMap hexB) (b := [hexC (b.toNat / 16)]) rfl rfl hlen1 rfl) ?_;iterate 2 refine dC [6] [] ?_
  refine dQ [33] [] (add_int (m := ((b.toNat % 16 + 1 : Nat) : Int)) tab_ok rfl rfl hw2) ?_;refine dQ [32, 34] [] (str_mid (l := hexD) (lo := b.toNat % 16) (hi := b.toNat % 16 + 1) tab_ok rfl rfl rfl rfl hle2 (by omega) hcut2) ?_
  refine dQ [31, 35] [] (add_str (a := (l.take i).flatMap hexB ++ [hexC (b.toNat / 16)]) (b := [hexC (b.toNat % 16)]) rfl rfl hlen2 rfl) ?_;refine dC [36] [] ?_;refine dreg_end (by kernel_rfl) ?_
  refine blk_n ?_;refine seq_n ?_;refine wc_region ?_;refine rC ?_;refine rQ iD ?_;refine rC ?_;refine reg_nil ?_
  exact loop_n (i + 1) [] hlt (by omega) (.of rfl rfl rfl rfl rfl ⟨⟨_, rfl, .refl _⟩, rfl, ⟨_, rfl, AVLe.of_eq (by rw [hgo]; rfl)⟩, rfl, ⟨_, rfl, .refl _⟩, rfl, trivial⟩ trivial)
 ·have he : i = l.length := by omega
  subst he
  have d1 : decide ((l.length : Int) < ((byI l).length : Int)) = false := dF (by omega)
  rw [List.take_length, show hexP l = l.flatMap hexB from if_neg hn]
  refine qR ?_;iterate 2 refine rC ?_
  refine rQ iE ?_;refine rC ?_;refine nS ?_;refine wF ?_;refine wc_exit ?_;refine seq_x ?_;refine loop_x ?_;refine blk_x ?_;refine seq_n ?_;refine sR ?_;iterate 2 refine rC ?_
  refine nS ?_;refine wc_ret ?_
  exact ⟨trivial, [], lf⟩
def cA (p : SAct → Bool) (l : List SAct) : Nat := l.countP p
theorem cA_go {p : SAct → Bool} {l : List SAct} {i : Nat} {a : SAct} (h : l[i]? = some a) : cA p (l.take (i + 1)) = cA p (l.take i) + if p a = true then 1 else 0 := by
 rw [List.take_add_one, h, Option.toList_some, cA, cA, List.countP_append, List.countP_cons, List.countP_nil, Nat.zero_add]
theorem cA_le (p : SAct → Bool) (l : List SAct) : cA p l ≤ l.length := List.countP_le_length
def isP (a : SAct) : Bool := decide (a.kind = 1)
def isE (a : SAct) : Bool := decide (a.kind = 2) || decide (a.kind = 3) || decide (a.kind = 4)
def isF (a : SAct) : Bool := decide (a.kind = 5)
theorem countA_is (c : SCfg) (l : List (List POp)) (bs : List SAct) (hL : bs.length ≤ 1000000000) : FnIs Tryz.prog 20 [.d (encScr c l bs)] [] (.tup (.acons (.int .i64 (cA isP bs)) (.acons (.int .i64 (cA isE bs)) (.acons (.int .i64 (cA isF bs)) .anil)))) [] := by
 refine fnIs_of tab_ok Tryz.func20 rfl rfl rfl ?_;refine sR ?_;refine rN ?_;iterate 3 refine rC ?_
 refine nQ ?_;refine sR ?_;refine rC ?_;refine rQ iB ?_;refine rQ iE ?_;refine rC ?_;refine nS ?_;refine wc_block ?_
 refine wc_inv (fun i : Nat => ⟨[(10, .int .i64 i), (9, .int .i64 bs.length), (8, .d (encAs bs)), (2, .int .i64 (cA isP (bs.take i))), (3, .int .i64 (cA isE (bs.take i))), (4, .int .i64 (cA isF (bs.take i)))], [], 72, Tryz.f20.ntmps, 64⟩) (fun i => i ≤ bs.length) (fun i => bs.length - i) 0 [] (Nat.zero_le _)
  (.of rfl rfl rfl rfl rfl ⟨⟨_, rfl, .refl _⟩, rfl, ⟨_, rfl, .refl _⟩, rfl, ⟨_, rfl, .refl _⟩, rfl, ⟨_, rfl, .refl _⟩, rfl, ⟨_, rfl, .refl _⟩, rfl, ⟨_, rfl, .refl _⟩, rfl, trivial⟩ trivial) ?_
 intro i hi
 refine wc_of ?_
 by_cases hlt : i < bs.length
 ·have d0 : decide ((i : Int) < (bs.length : Int)) = true := dT (by omega)
  obtain ⟨a, ha⟩ : ∃ a, bs[i]? = some a := ⟨_, List.getElem?_eq_getElem hlt⟩
  have ha2 : bs[((i : Int)).toNat]? = some a := by rw [Int.toNat_natCast]; exact ha
  have g1 := cA_go (p := isP) ha
  have g2 := cA_go (p := isE) ha
  have g3 := cA_go (p := isF) ha
  have b1 := cA_le isP (bs.take i)
  have b2 := cA_le isE (bs.take i)
  have b3 := cA_le isF (bs.take i)
  rw [List.length_take] at b1 b2 b3
  refine sR ?_;refine rC ?_;refine nQ ?_;refine wT ?_;refine kS ?_;refine wc_seq ?_;refine wc_block ?_;refine sR ?_;refine rQ (index_arr tab_ok rfl rfl rfl rfl rfl (by omega) ha2) ?_
  refine rQ iL ?_;refine rN ?_;refine rW ?_;refine nR ?_;refine rC ?_;refine rQ iB ?_;refine nS ?_;refine wc_block ?_;refine sR ?_;iterate 2 refine rC ?_
  refine nS ?_
  by_cases k1 : a.kind = 1
  ·skip
   have d1 : decide (a.kind = 1) = true := dT (by omega)
   rw [if_pos (by simp [isP]; omega)] at g1
   rw [if_neg (by simp [isE]; omega)] at g2
   rw [if_neg (by simp [isF]; omega)] at g3
   refine wT ?_;refine wc_region ?_;refine rC ?_;refine rQ iD ?_;refine rC ?_;refine reg_nil ?_;iterate 2 refine blk_n ?_
   refine seq_n ?_;refine wc_region ?_;refine rQ iD ?_;refine rC ?_;refine reg_nil ?_
   exact loop_n (i + 1) [] hlt (by omega) (.of rfl rfl rfl rfl rfl ⟨⟨_, rfl, .refl _⟩, rfl, ⟨_, rfl, .refl _⟩, rfl, ⟨_, rfl, .refl _⟩, rfl, ⟨_, rfl, AVLe.of_eq (by rw [g1]; rfl)⟩, rfl, ⟨_, rfl, AVLe.of_eq (by rw [g2]; rfl)⟩, rfl, ⟨_, rfl, AVLe.of_eq (by rw [g3]; rfl)⟩, rfl, trivial⟩ trivial)
  by_cases k2 : a.kind = 2
  ·skip
   have d1 : decide (a.kind = 1) = false := dF (by omega)
   have d2 : decide (a.kind = 2) = true := dT (by omega)
   rw [if_neg (by simp [isP]; omega)] at g1
   rw [if_pos (by simp [isE]; omega)] at g2
   rw [if_neg (by simp [isF]; omega)] at g3
   refine wF ?_;refine qR ?_;iterate 2 refine rC ?_
   refine nS ?_;refine wT ?_;refine kS ?_;refine wT ?_;refine wc_region ?_;refine rC ?_;refine rQ iD ?_;refine rC ?_;refine reg_nil ?_;iterate 2 refine blk_n ?_
   refine seq_n ?_;refine wc_region ?_;refine rQ iD ?_;refine rC ?_;refine reg_nil ?_
   exact loop_n (i + 1) [] hlt (by omega) (.of rfl rfl rfl rfl rfl ⟨⟨_, rfl, .refl _⟩, rfl, ⟨_, rfl, .refl _⟩, rfl, ⟨_, rfl, .refl _⟩, rfl, ⟨_, rfl, AVLe.of_eq (by rw [g1]; rfl)⟩, rfl, ⟨_, rfl, AVLe.of_eq (by rw [g2]; rfl)⟩, rfl, ⟨_, rfl, AVLe.of_eq (by rw [g3]; rfl)⟩, rfl, trivial⟩ trivial)
  by_cases k3 : a.kind = 3
  ·skip
   have d1 : decide (a.kind = 1) = false := dF (by omega)
   have d2 : decide (a.kind = 2) = false := dF (by omega)
   have d3 : decide (a.kind = 3) = true := dT (by omega)
   rw [if_neg (by simp [isP]; omega)] at g1
   rw [if_pos (by simp [isE]; omega)] at g2
   rw [if_neg (by simp [isF]; omega)] at g3
   refine wF ?_;refine qR ?_;iterate 2 refine rC ?_
   refine nS ?_;refine wF ?_;refine sR ?_;iterate 2 refine rC ?_
   refine nS ?_;refine wT ?_;refine kS ?_;refine wT ?_;refine wc_region ?_;refine rC ?_;refine rQ iD ?_;refine rC ?_;refine reg_nil ?_;iterate 2 refine blk_n ?_
   refine seq_n ?_;refine wc_region ?_;refine rQ iD ?_;refine rC ?_;refine reg_nil ?_
   exact loop_n (i + 1) [] hlt (by omega) (.of rfl rfl rfl rfl rfl ⟨⟨_, rfl, .refl _⟩, rfl, ⟨_, rfl, .refl _⟩, rfl, ⟨_, rfl, .refl _⟩, rfl, ⟨_, rfl, AVLe.of_eq (by rw [g1]; rfl)⟩, rfl, ⟨_, rfl, AVLe.of_eq (by rw [g2]; rfl)⟩, rfl, ⟨_, rfl, AVLe.of_eq (by rw [g3]; rfl)⟩, rfl, trivial⟩ trivial)
  by_cases k4 : a.kind = 4
  ·skip
   have d1 : decide (a.kind = 1) = false := dF (by omega)
   have d2 : decide (a.kind = 2) = false := dF (by omega)
   have d3 : decide (a.kind = 3) = false := dF (by omega)
   have d4 : decide (a.kind = 4) = true := dT (by omega)
   rw [if_neg (by simp [isP]; omega)] at g1
   rw [if_pos (by simp [isE]; omega)] at g2
   rw [if_neg (by simp [isF]; omega)] at g3
   refine wF ?_;refine qR ?_;iterate 2 refine rC ?_
   refine nS ?_;refine wF ?_;refine sR ?_;iterate 2 refine rC ?_
   refine nS ?_;refine wF ?_;refine wc_region ?_;iterate 2 refine rC ?_
   refine nS ?_;refine wT ?_;refine wc_region ?_;refine rC ?_;refine rQ iD ?_;refine rC ?_;refine reg_nil ?_;iterate 2 refine blk_n ?_
   refine seq_n ?_;refine wc_region ?_;refine rQ iD ?_;refine rC ?_;refine reg_nil ?_
   exact loop_n (i + 1) [] hlt (by omega) (.of rfl rfl rfl rfl rfl ⟨⟨_, rfl, .refl _⟩, rfl, ⟨_, rfl, .refl _⟩, rfl, ⟨_, rfl, .refl _⟩, rfl, ⟨_, rfl, AVLe.of_eq (by rw [g1]; rfl)⟩, rfl, ⟨_, rfl, AVLe.of_eq (by rw [g2]; rfl)⟩, rfl, ⟨_, rfl, AVLe.of_eq (by rw [g3]; rfl)⟩, rfl, trivial⟩ trivial)
  by_cases k5 : a.kind = 5
  ·skip
   have d1 : decide (a.kind = 1) = false := dF (by omega)
   have d2 : decide (a.kind = 2) = false := dF (by omega)
   have d3 : decide (a.kind = 3) = false := dF (by omega)
   have d4 : decide (a.kind = 4) = false := dF (by omega)
   have d5 : decide (a.kind = 5) = true := dT (by omega)
   rw [if_neg (by simp [isP]; omega)] at g1
   rw [if_neg (by simp [isE]; omega)] at g2
   rw [if_pos (by simp [isF]; omega)] at g3
   refine wF ?_;refine qR ?_;iterate 2 refine rC ?_
   refine nS ?_;refine wF ?_;refine sR ?_;iterate 2 refine rC ?_
   refine nS ?_;refine wF ?_;refine wc_region ?_;iterate 2 refine rC ?_
   refine nS ?_;refine wF ?_;refine sR ?_;iterate 2 refine rC ?_
   refine nS ?_;refine wT ?_;refine wc_region ?_;refine rC ?_;refine rQ iD ?_;refine rC ?_;refine reg_nil ?_;iterate 2 refine blk_n ?_
   refine seq_n ?_;refine wc_region ?_;refine rQ iD ?_;refine rC ?_;refine reg_nil ?_
   exact loop_n (i + 1) [] hlt (by omega) (.of rfl rfl rfl rfl rfl ⟨⟨_, rfl, .refl _⟩, rfl, ⟨_, rfl, .refl _⟩, rfl, ⟨_, rfl, .refl _⟩, rfl, ⟨_, rfl, AVLe.of_eq (by rw [g1]; rfl)⟩, rfl, ⟨_, rfl, AVLe.of_eq (by rw [g2]; rfl)⟩, rfl, ⟨_, rfl, AVLe.of_eq (by rw [g3]; rfl)⟩, rfl, trivial⟩ trivial)
  ·skip
   have d1 : decide (a.kind = 1) = false := dF (by omega)
   have d2 : decide (a.kind = 2) = false := dF (by omega)
   have d3 : decide (a.kind = 3) = false := dF (by omega)
   have d4 : decide (a.kind = 4) = false := dF (by omega)
   have d5 : decide (a.kind = 5) = false := dF (by omega)
   rw [if_neg (by simp [isP]; omega)] at g1
   rw [if_neg (by simp [isE]; omega)] at g2
   rw [if_neg (by simp [isF]; omega)] at g3
   refine wF ?_;refine qR ?_;iterate 2 refine rC ?_
   refine nS ?_;refine wF ?_;refine sR ?_;iterate 2 refine rC ?_
   refine nS ?_;refine wF ?_;refine wc_region ?_;iterate 2 refine rC ?_
   refine nS ?_;refine wF ?_;refine sR ?_;iterate 2 refine rC ?_
   refine nS ?_;refine wF ?_;refine wc_skip ?_;iterate 2 refine blk_n ?_
   refine seq_n ?_;refine wc_region ?_;refine rQ iD ?_;refine rC ?_;refine reg_nil ?_
   exact loop_n (i + 1) [] hlt (by omega) (.of rfl rfl rfl rfl rfl ⟨⟨_, rfl, .refl _⟩, rfl, ⟨_, rfl, .refl _⟩, rfl, ⟨_, rfl, .refl _⟩, rfl, ⟨_, rfl, AVLe.of_eq (by rw [g1]; rfl)⟩, rfl, ⟨_, rfl, AVLe.of_eq (by rw [g2]; rfl)⟩, rfl, ⟨_, rfl, AVLe.of_eq (by rw [g3]; rfl)⟩, rfl, trivial⟩ trivial)
 ·have he : i = bs.length := by omega
  subst he
  have d0 : decide ((bs.length : Int) < (bs.length : Int)) = false := dF (by omega)
  rw [List.take_length]
  refine sR ?_;refine rC ?_;refine nQ ?_;refine wF ?_;refine wc_exit ?_;refine seq_x ?_;refine loop_x ?_;refine blk_x ?_;refine seq_n ?_;refine sR ?_;iterate 6 refine rC ?_
  refine nS ?_;refine wc_ret ?_
  exact ⟨trivial, [], lf⟩
def encAN : Option SAct → D
 | none => .cons (u8s 0) (.cons (i6 0) (.cons (i6 0) (.cons (.sc (.slice none 0 0)) (.cons (i6 0) .nil))))
 | some a => encAct a
def pickA (n : Int) : SAct := ⟨1, n, 0, [], 0⟩
def encAV : Bool × SAct → D
 | (true, a) => .cons (u8s a.kind) (.cons (i6 a.thread) (.cons (i6 a.sector) (.cons (.sc nil_) (.cons (i6 a.back) .nil))))
 | (false, a) => encAct a
def AVOk (x : Bool × SAct) : Prop := x.1 = true → x.2.bytes = []
theorem encAV_le {x : Bool × SAct} (h : AVOk x) : DLe (encAV x) (encAct x.2) := by
 obtain ⟨b, ⟨k, t, s, y, r⟩⟩ := x
 cases b with
 | false => exact fun _ _ _ h => h
 | true =>
  have : y = [] := h rfl
  subst this
  exact act_dle k t s r
theorem encAVs_le {l : List (Bool × SAct)} {bs : List SAct} (hb : bs = l.map (·.2)) (h : ∀ x ∈ l, AVOk x) : DLe (.arr 5 encAV l) (encAs bs) := dle_arr hb fun x hx => encAV_le (h x hx)
theorem encAV_size (x : Bool × SAct) : (encAV x).size = 5 := by obtain ⟨b, a⟩ := x; cases b <;> rfl
end Go.Proofs.YthiijfbcfoifnaaGreatDoor
namespace Go.Eng
section
variable {P : Program} {T : Tab} {env : Env} {h : Upds} {n : Nat}
theorem conv_bytesS (hT : TabOk P T) {t t' e : TypeId} {x : Operand} {l : List UInt8} (ht : tdesc T t = some (.slice e)) (he : tdesc T e = some (.int .u8)) (ht' : tdesc T t' = some .string) (hx : evalA env x = some (.d (.arr 1 encU8 (byI l)))) :
  StepIs P (.convert t t' x) env h n (some (.d (strD l))) [] := by
 have := conv_bytes (h := h) (n := n) hT ht he ht' hx
 rw [strOf_byI] at this
 exact this
end
end Go.Eng
namespace Go.Plain
open Go.Eng Go.Lib
end Go.Plain
namespace Go.Proofs.YthiijfbcfoifnaaGreatDoor
open Go.Eng Go.Plain
set_option maxHeartbeats 4000000
set_option maxRecDepth 20000
attribute [local irreducible] WC RegS RegD SeqQ BlkQ ScoQ RegK CutK Sat SatN FnIs LoopQ StepIs OpIs
end Go.Proofs.YthiijfbcfoifnaaGreatDoor
namespace Go.Plain
open Go.Eng Go.Lib
def valF (a : Nat) (w : List UInt8) : Nat := w.foldl (fun n b => 10 * n + (b.toNat - 48)) a
def valN (w : List UInt8) : Nat := valF 0 w
def Digs (w : List UInt8) : Prop := ∀ b ∈ w, 48 ≤ b.toNat ∧ b.toNat ≤ 57
def NumOk (w : List UInt8) : Prop := w ≠ [] ∧ w.length ≤ 20 ∧ ¬ (1 < w.length ∧ w.head? = some 48) ∧ Digs w ∧ valN w < 18446744073709551616
end Go.Plain
namespace Go.Proofs.YthiijfbcfoifnaaGreatDoor
open Go.Eng Go.Plain
set_option maxHeartbeats 4000000
set_option maxRecDepth 20000
attribute [local irreducible] WC RegS RegD SeqQ BlkQ ScoQ RegK CutK Sat SatN FnIs LoopQ StepIs OpIs
def packV : List UInt8 → List Int
 | [] => []
 | [a] => [((16 * nibV a : Nat) : Int)]
 | a :: b :: l => ((16 * nibV a + nibV b : Nat) : Int) :: packV l
abbrev byR34 (o : Option (List UInt8)) : AV := .tup (.acons (.d (encB (o.getD []))) (.acons (.bool o.isSome) .anil))
def readW (ws : List (List UInt8)) : Option SAct := match ws with
 | [v] => if v = sFall then some ⟨5, 0, 0, [], 0⟩ else none
 | [v, a] => if v = sPick then (numS 31 a).map fun (n : Nat) => ⟨1, n, 0, [], 0⟩
  else if v = sErase then (numS 31 a).map fun (n : Nat) => ⟨3, 0, n, [], 0⟩ else none
 | [v, a, b] => if v = sEdit then (match numS 31 a, unhexP b with
  | some n, some d => some ⟨2, 0, n, d, 0⟩
  | _, _ => none)
  else if v = sReplay then (match numS 31 a, numS 31 b with
  | some n, some k => some ⟨4, 0, n, [], k⟩
  | _, _ => none) else none
 | _ => none
abbrev RdIs (t : List UInt8) (a : SAct) (b : Bool) : Prop := FnIs Tryz.prog 44 [.d (strD t)] [] (.tup (.acons (.d (encAct a)) (.acons (.bool b) .anil))) []
abbrev hdW : List (List UInt8) := [sVolume, sNonces, sFlaw, sMaster, sPrograms]
abbrev hdM : List Int := [5, 3, 2, 2, 1]
abbrev hdB : List Int := [31, 64, 8]
abbrev RhIs (i : Nat) (t : List UInt8) (c : SCfg) (c' : SCfg) (b : Bool) : Prop := FnIs Tryz.prog 42 [.int .i64 i, .d (strD t), .d (encCfg c)] [] (.tup (.acons (.d (encCfg c')) (.acons (.bool b) .anil))) []
def nums (B : Nat) (ws : List (List UInt8)) : List Int := ws.map fun w => (((numS B w).getD 0 : Nat) : Int)
def updH (i : Nat) (c : SCfg) (l : List Int) : SCfg :=
 if i = 0 then { c with blocks := l.getD 0 0, shards := l.getD 1 0, frames := l.getD 2 0, clients := l.getD 3 0 }
 else if i = 1 then { c with limit := l.getD 0 0, reserve := l.getD 1 0 } else { c with flaw := l.getD 0 0 }
end Go.Proofs.YthiijfbcfoifnaaGreatDoor
namespace Go.Proofs.YthiijfbcfoifnaaGreatDoor
open Go.Eng Go.Plain
set_option maxHeartbeats 2000000
end Go.Proofs.YthiijfbcfoifnaaGreatDoor
namespace Go.Proofs.YthiijfbcfoifnaaGreatDoor
open Go.Eng Go.Plain
set_option maxHeartbeats 8000000
set_option maxRecDepth 20000
attribute [local irreducible] WC RegS RegD SeqQ BlkQ ScoQ RegK CutK Sat SatN FnIs LoopQ StepIs OpIs
abbrev parSB (x : SScr) (n : Nat) (e : Int) : AV := .tup (.acons (.d (encScr x.1 x.2.1 x.2.2)) (.acons (.int .i64 n) (.acons (.d (i6 e)) .anil)))
abbrev rowZ : Row := .box 30 (.d r30.zero)
end Go.Proofs.YthiijfbcfoifnaaGreatDoor
namespace Go.Proofs.YthiijfbcfoifnaaGreatDoor
open Go.Eng Go.Plain
set_option maxHeartbeats 4000000
set_option maxRecDepth 20000
attribute [local irreducible] WC RegS RegD SeqQ BlkQ ScoQ RegK CutK Sat SatN FnIs LoopQ StepIs OpIs
theorem eq_of_at {α : Type} {a b : List α} (hl : a.length = b.length) (h : ∀ j, j < a.length → a[j]? = b[j]?) : a = b := by
 refine List.ext_getElem? fun j => ?_
 by_cases hj : j < a.length
 ·exact h j hj
 ·rw [List.getElem?_eq_none (by omega), List.getElem?_eq_none (by omega)]
theorem alike_is (a b : List SAct) (ha : a.length ≤ 1000000000) (hb : b.length ≤ 1000000000) : FnIs Tryz.prog 19 [.d (encAs a), .d (encAs b)] [] (.int .i64 (if a = b then 1 else 0)) [] := by
 refine fnIs_of tab_ok Tryz.func19 rfl rfl rfl ?_;refine sR ?_;refine rC ?_;refine nQ ?_;refine sR ?_;refine rC ?_;refine rQ iE ?_;refine rC ?_;refine rQ iE ?_;refine rC ?_
 refine nS ?_
 by_cases hl : a.length = b.length
 ·have d1 : (!decide ((a.length : Int) = (b.length : Int))) = false := by rw [dT (by omega)]; rfl
  refine wF ?_;refine kS ?_;refine qR ?_;refine rC ?_;refine nS ?_;refine wc_block ?_
  refine wc_inv (fun i : Nat => ⟨[(5, .int .i64 i), (0, .d (encAs a)), (1, .d (encAs b))], [], 64, Tryz.f19.ntmps, 64⟩) (fun i => i ≤ a.length ∧ ∀ j, j < i → a[j]? = b[j]?) (fun i => a.length - i) 0 [] ⟨Nat.zero_le _, fun j hj => absurd hj (Nat.not_lt_zero _)⟩
   (.of rfl rfl rfl rfl rfl ⟨⟨_, rfl, .refl _⟩, rfl, ⟨_, rfl, .refl _⟩, rfl, ⟨_, rfl, .refl _⟩, rfl, trivial⟩ trivial) ?_
  rintro i ⟨hi, hall⟩
  refine wc_of ?_
  by_cases hlt : i < a.length
  ·have d0 : decide ((i : Int) < (a.length : Int)) = true := dT (by omega)
   obtain ⟨x, hx⟩ : ∃ x, a[i]? = some x := ⟨_, List.getElem?_eq_getElem hlt⟩
   obtain ⟨y, hy⟩ : ∃ y, b[i]? = some y := ⟨_, List.getElem?_eq_getElem (by omega)⟩
   have hx2 : a[((i : Int)).toNat]? = some x := by rw [Int.toNat_natCast]; exact hx
   have hy2 : b[((i : Int)).toNat]? = some y := by rw [Int.toNat_natCast]; exact hy
   by_cases hq : x = y
   ·subst hq
    have e1 : (!decide (x.kind = x.kind)) = false := by simp
    have e2 : (!decide (x.thread = x.thread)) = false := by simp
    have e3 : (!decide (x.sector = x.sector)) = false := by simp
    have e4 : (!decide (x.back = x.back)) = false := by simp
    have e5 : (!decide (strOf (byI x.bytes) = strOf (byI x.bytes))) = false := by simp
    refine qR ?_;iterate 2 refine rC ?_
    refine rQ iE ?_;refine rC ?_;refine nS ?_;refine wT ?_;refine kS ?_;refine wc_seq ?_;refine wc_block ?_;refine wc_seq ?_;refine wc_draw (by kernel_rfl) ?_;refine dC [0] [] ?_
    refine dC [5] [] ?_;refine dQ [17, 18] [] (index_arr tab_ok rfl rfl rfl rfl rfl (by omega) hx2) ?_;refine dC [19] [] ?_;refine dQ [20] [] iL ?_;refine dC [1] [] ?_
    refine dC [5] [] ?_;refine dQ [22, 23] [] (index_arr tab_ok rfl rfl rfl rfl rfl (by omega) hy2) ?_;refine dC [24] [] ?_;refine dQ [25] [] iL ?_;refine dC [21, 26] [] ?_
    refine dC [27] [] ?_;refine dreg_onq [28, 0] [] rfl rfl (by assumption) rfl (step_C tab_ok (fun K hk => hk)) ?_;refine dreg_onq [28, 5] [] rfl rfl (by assumption) rfl (step_C tab_ok (fun K hk => hk)) ?_
    refine dreg_onq [28, 29, 30] [] rfl rfl (by assumption) rfl (index_arr tab_ok rfl rfl rfl rfl rfl (by omega) hx2) ?_;refine dreg_onq [28, 31] [] rfl rfl (by assumption) rfl (step_C tab_ok (fun K hk => hk)) ?_
    refine dreg_onq [28, 32] [] rfl rfl (by assumption) rfl (load_i tab_ok rfl rfl) ?_;refine dreg_onq [28, 1] [] rfl rfl (by assumption) rfl (step_C tab_ok (fun K hk => hk)) ?_
    refine dreg_onq [28, 5] [] rfl rfl (by assumption) rfl (step_C tab_ok (fun K hk => hk)) ?_;refine dreg_onq [28, 34, 35] [] rfl rfl (by assumption) rfl (index_arr tab_ok rfl rfl rfl rfl rfl (by omega) hy2) ?_
    refine dreg_onq [28, 36] [] rfl rfl (by assumption) rfl (step_C tab_ok (fun K hk => hk)) ?_;refine dreg_onq [28, 37] [] rfl rfl (by assumption) rfl (load_i tab_ok rfl rfl) ?_
    refine dreg_onq [28, 33, 38] [] rfl rfl (by assumption) rfl (step_C tab_ok (fun K hk => hk)) ?_;refine dQ [28, 39] [] iF ?_;refine dC [40] [] ?_;refine dreg_onq [41, 0] [] rfl rfl (by assumption) rfl (step_C tab_ok (fun K hk => hk)) ?_
    refine dreg_onq [41, 5] [] rfl rfl (by assumption) rfl (step_C tab_ok (fun K hk => hk)) ?_;refine dreg_onq [41, 42, 43] [] rfl rfl (by assumption) rfl (index_arr tab_ok rfl rfl rfl rfl rfl (by omega) hx2) ?_
    refine dreg_onq [41, 44] [] rfl rfl (by assumption) rfl (step_C tab_ok (fun K hk => hk)) ?_;refine dreg_onq [41, 45] [] rfl rfl (by assumption) rfl (load_i tab_ok rfl rfl) ?_
    refine dreg_onq [41, 1] [] rfl rfl (by assumption) rfl (step_C tab_ok (fun K hk => hk)) ?_;refine dreg_onq [41, 5] [] rfl rfl (by assumption) rfl (step_C tab_ok (fun K hk => hk)) ?_
    refine dreg_onq [41, 47, 48] [] rfl rfl (by assumption) rfl (index_arr tab_ok rfl rfl rfl rfl rfl (by omega) hy2) ?_;refine dreg_onq [41, 49] [] rfl rfl (by assumption) rfl (step_C tab_ok (fun K hk => hk)) ?_
    refine dreg_onq [41, 50] [] rfl rfl (by assumption) rfl (load_i tab_ok rfl rfl) ?_;refine dreg_onq [41, 46, 51] [] rfl rfl (by assumption) rfl (step_C tab_ok (fun K hk => hk)) ?_
    refine dQ [41, 52] [] iF ?_;refine dC [53] [] ?_;refine dreg_onq [54, 0] [] rfl rfl (by assumption) rfl (step_C tab_ok (fun K hk => hk)) ?_;refine dreg_onq [54, 5] [] rfl rfl (by assumption) rfl (step_C tab_ok (fun K hk => hk)) ?_
    refine dreg_onq [54, 55, 56] [] rfl rfl (by assumption) rfl (index_arr tab_ok rfl rfl rfl rfl rfl (by omega) hx2) ?_;refine dreg_onq [54, 57] [] rfl rfl (by assumption) rfl (step_C tab_ok (fun K hk => hk)) ?_
    refine dreg_onq [54, 58] [] rfl rfl (by assumption) rfl (load_i tab_ok rfl rfl) ?_;refine dreg_onq [54, 1] [] rfl rfl (by assumption) rfl (step_C tab_ok (fun K hk => hk)) ?_
    refine dreg_onq [54, 5] [] rfl rfl (by assumption) rfl (step_C tab_ok (fun K hk => hk)) ?_;refine dreg_onq [54, 60, 61] [] rfl rfl (by assumption) rfl (index_arr tab_ok rfl rfl rfl rfl rfl (by omega) hy2) ?_
    refine dreg_onq [54, 62] [] rfl rfl (by assumption) rfl (step_C tab_ok (fun K hk => hk)) ?_;refine dreg_onq [54, 63] [] rfl rfl (by assumption) rfl (load_i tab_ok rfl rfl) ?_
    refine dreg_onq [54, 59, 64] [] rfl rfl (by assumption) rfl (step_C tab_ok (fun K hk => hk)) ?_;refine dQ [54, 65] [] iF ?_;refine dC [66] [] ?_;refine dreg_onq [67, 0] [] rfl rfl (by assumption) rfl (step_C tab_ok (fun K hk => hk)) ?_
    refine dreg_onq [67, 5] [] rfl rfl (by assumption) rfl (step_C tab_ok (fun K hk => hk)) ?_;refine dreg_onq [67, 68, 69] [] rfl rfl (by assumption) rfl (index_arr tab_ok rfl rfl rfl rfl rfl (by omega) hx2) ?_
    refine dreg_onq [67, 70] [] rfl rfl (by assumption) rfl (step_C tab_ok (fun K hk => hk)) ?_;refine dreg_onq [67, 71] [] rfl rfl (by assumption) rfl (load_i tab_ok rfl rfl) ?_
    refine dreg_onq [67, 72] [] rfl rfl (by assumption) rfl (conv_bytes tab_ok rfl rfl rfl rfl) ?_;refine dreg_onq [67, 1] [] rfl rfl (by assumption) rfl (step_C tab_ok (fun K hk => hk)) ?_
    refine dreg_onq [67, 5] [] rfl rfl (by assumption) rfl (step_C tab_ok (fun K hk => hk)) ?_;refine dreg_onq [67, 74, 75] [] rfl rfl (by assumption) rfl (index_arr tab_ok rfl rfl rfl rfl rfl (by omega) hy2) ?_
    refine dreg_onq [67, 76] [] rfl rfl (by assumption) rfl (step_C tab_ok (fun K hk => hk)) ?_;refine dreg_onq [67, 77] [] rfl rfl (by assumption) rfl (load_i tab_ok rfl rfl) ?_
    refine dreg_onq [67, 78] [] rfl rfl (by assumption) rfl (conv_bytes tab_ok rfl rfl rfl rfl) ?_;refine dreg_onq [67, 73, 79] [] rfl rfl (by assumption) rfl (neq_str tab_ok rfl rfl rfl) ?_
    refine dQ [67, 80] [] iF ?_;refine dreg_end (by kernel_rfl) ?_;refine seq_n ?_;refine wF ?_;refine wc_skip ?_;refine blk_n ?_;refine seq_n ?_;refine wc_region ?_
    refine rC ?_;refine rQ iD ?_;refine rC ?_;refine reg_nil ?_
    exact loop_n (i + 1) [] ⟨hlt, fun j hj => by
     by_cases e : j = i
     ·subst e; rw [hx, hy]
     ·exact hall j (by omega)⟩ (by omega) (.of rfl rfl rfl rfl rfl ⟨⟨_, rfl, .refl _⟩, rfl, ⟨_, rfl, .refl _⟩, rfl, ⟨_, rfl, .refl _⟩, rfl, trivial⟩ trivial)
   ·rw [if_neg (show ¬ a = b from fun e => by subst e; rw [hx] at hy; cases hy; exact hq rfl)]
    by_cases k1 : x.kind = y.kind
    ·have e1 : (!decide (x.kind = y.kind)) = false := by simp [k1]
     by_cases k2 : x.thread = y.thread
     ·have e2 : (!decide (x.thread = y.thread)) = false := by simp [k2]
      by_cases k3 : x.sector = y.sector
      ·have e3 : (!decide (x.sector = y.sector)) = false := by simp [k3]
       by_cases k4 : x.back = y.back
       ·have e4 : (!decide (x.back = y.back)) = false := by simp [k4]
        have k5 : ¬ x.bytes = y.bytes := fun k5 => hq (by cases x; cases y; simp_all)
        have e5 : (!decide (strOf (byI x.bytes) = strOf (byI y.bytes))) = true := by rw [strOf_byI, strOf_byI, mkS_dec]; simp [k5]
        refine qR ?_;iterate 2 refine rC ?_
        refine rQ iE ?_;refine rC ?_;refine nS ?_;refine wT ?_;refine kS ?_;refine wc_seq ?_;refine wc_block ?_;refine wc_seq ?_;refine wc_draw (by kernel_rfl) ?_;refine dC [0] [] ?_
        refine dC [5] [] ?_;refine dQ [17, 18] [] (index_arr tab_ok rfl rfl rfl rfl rfl (by omega) hx2) ?_;refine dC [19] [] ?_;refine dQ [20] [] iL ?_;refine dC [1] [] ?_
        refine dC [5] [] ?_;refine dQ [22, 23] [] (index_arr tab_ok rfl rfl rfl rfl rfl (by omega) hy2) ?_;refine dC [24] [] ?_;refine dQ [25] [] iL ?_;refine dC [21, 26] [] ?_
        refine dC [27] [] ?_;refine dreg_onq [28, 0] [] rfl rfl (by assumption) rfl (step_C tab_ok (fun K hk => hk)) ?_;refine dreg_onq [28, 5] [] rfl rfl (by assumption) rfl (step_C tab_ok (fun K hk => hk)) ?_
        refine dreg_onq [28, 29, 30] [] rfl rfl (by assumption) rfl (index_arr tab_ok rfl rfl rfl rfl rfl (by omega) hx2) ?_;refine dreg_onq [28, 31] [] rfl rfl (by assumption) rfl (step_C tab_ok (fun K hk => hk)) ?_
        refine dreg_onq [28, 32] [] rfl rfl (by assumption) rfl (load_i tab_ok rfl rfl) ?_;refine dreg_onq [28, 1] [] rfl rfl (by assumption) rfl (step_C tab_ok (fun K hk => hk)) ?_
        refine dreg_onq [28, 5] [] rfl rfl (by assumption) rfl (step_C tab_ok (fun K hk => hk)) ?_;refine dreg_onq [28, 34, 35] [] rfl rfl (by assumption) rfl (index_arr tab_ok rfl rfl rfl rfl rfl (by omega) hy2) ?_
        refine dreg_onq [28, 36] [] rfl rfl (by assumption) rfl (step_C tab_ok (fun K hk => hk)) ?_;refine dreg_onq [28, 37] [] rfl rfl (by assumption) rfl (load_i tab_ok rfl rfl) ?_
        refine dreg_onq [28, 33, 38] [] rfl rfl (by assumption) rfl (step_C tab_ok (fun K hk => hk)) ?_;refine dQ [28, 39] [] iF ?_;refine dC [40] [] ?_;refine dreg_onq [41, 0] [] rfl rfl (by assumption) rfl (step_C tab_ok (fun K hk => hk)) ?_
        refine dreg_onq [41, 5] [] rfl rfl (by assumption) rfl (step_C tab_ok (fun K hk => hk)) ?_;refine dreg_onq [41, 42, 43] [] rfl rfl (by assumption) rfl (index_arr tab_ok rfl rfl rfl rfl rfl (by omega) hx2) ?_
        refine dreg_onq [41, 44] [] rfl rfl (by assumption) rfl (step_C tab_ok (fun K hk => hk)) ?_;refine dreg_onq [41, 45] [] rfl rfl (by assumption) rfl (load_i tab_ok rfl rfl) ?_
        refine dreg_onq [41, 1] [] rfl rfl (by assumption) rfl (step_C tab_ok (fun K hk => hk)) ?_;refine dreg_onq [41, 5] [] rfl rfl (by assumption) rfl (step_C tab_ok (fun K hk => hk)) ?_
        refine dreg_onq [41, 47, 48] [] rfl rfl (by assumption) rfl (index_arr tab_ok rfl rfl rfl rfl rfl (by omega) hy2) ?_;refine dreg_onq [41, 49] [] rfl rfl (by assumption) rfl (step_C tab_ok (fun K hk => hk)) ?_
        refine dreg_onq [41, 50] [] rfl rfl (by assumption) rfl (load_i tab_ok rfl rfl) ?_;refine dreg_onq [41, 46, 51] [] rfl rfl (by assumption) rfl (step_C tab_ok (fun K hk => hk)) ?_
        refine dQ [41, 52] [] iF ?_;refine dC [53] [] ?_;refine dreg_onq [54, 0] [] rfl rfl (by assumption) rfl (step_C tab_ok (fun K hk => hk)) ?_;refine dreg_onq [54, 5] [] rfl rfl (by assumption) rfl (step_C tab_ok (fun K hk => hk)) ?_
        refine dreg_onq [54, 55, 56] [] rfl rfl (by assumption) rfl (index_arr tab_ok rfl rfl rfl rfl rfl (by omega) hx2) ?_;refine dreg_onq [54, 57] [] rfl rfl (by assumption) rfl (step_C tab_ok (fun K hk => hk)) ?_
        refine dreg_onq [54, 58] [] rfl rfl (by assumption) rfl (load_i tab_ok rfl rfl) ?_;refine dreg_onq [54, 1] [] rfl rfl (by assumption) rfl (step_C tab_ok (fun K hk => hk)) ?_
        refine dreg_onq [54, 5] [] rfl rfl (by assumption) rfl (step_C tab_ok (fun K hk => hk)) ?_;refine dreg_onq [54, 60, 61] [] rfl rfl (by assumption) rfl (index_arr tab_ok rfl rfl rfl rfl rfl (by omega) hy2) ?_
        refine dreg_onq [54, 62] [] rfl rfl (by assumption) rfl (step_C tab_ok (fun K hk => hk)) ?_;refine dreg_onq [54, 63] [] rfl rfl (by assumption) rfl (load_i tab_ok rfl rfl) ?_
        refine dreg_onq [54, 59, 64] [] rfl rfl (by assumption) rfl (step_C tab_ok (fun K hk => hk)) ?_;refine dQ [54, 65] [] iF ?_;refine dC [66] [] ?_;refine dreg_onq [67, 0] [] rfl rfl (by assumption) rfl (step_C tab_ok (fun K hk => hk)) ?_
        refine dreg_onq [67, 5] [] rfl rfl (by assumption) rfl (step_C tab_ok (fun K hk => hk)) ?_;refine dreg_onq [67, 68, 69] [] rfl rfl (by assumption) rfl (index_arr tab_ok rfl rfl rfl rfl rfl (by omega) hx2) ?_
        refine dreg_onq [67, 70] [] rfl rfl (by assumption) rfl (step_C tab_ok (fun K hk => hk)) ?_;refine dreg_onq [67, 71] [] rfl rfl (by assumption) rfl (load_i tab_ok rfl rfl) ?_
        refine dreg_onq [67, 72] [] rfl rfl (by assumption) rfl (conv_bytes tab_ok rfl rfl rfl rfl) ?_;refine dreg_onq [67, 1] [] rfl rfl (by assumption) rfl (step_C tab_ok (fun K hk => hk)) ?_
        refine dreg_onq [67, 5] [] rfl rfl (by assumption) rfl (step_C tab_ok (fun K hk => hk)) ?_;refine dreg_onq [67, 74, 75] [] rfl rfl (by assumption) rfl (index_arr tab_ok rfl rfl rfl rfl rfl (by omega) hy2) ?_
        refine dreg_onq [67, 76] [] rfl rfl (by assumption) rfl (step_C tab_ok (fun K hk => hk)) ?_;refine dreg_onq [67, 77] [] rfl rfl (by assumption) rfl (load_i tab_ok rfl rfl) ?_
        refine dreg_onq [67, 78] [] rfl rfl (by assumption) rfl (conv_bytes tab_ok rfl rfl rfl rfl) ?_;refine dreg_onq [67, 73, 79] [] rfl rfl (by assumption) rfl (neq_str tab_ok rfl rfl rfl) ?_
        refine dQ [67, 80] [] iF ?_;refine dreg_end (by kernel_rfl) ?_;refine seq_n ?_;refine wT ?_;refine sR ?_;refine rC ?_;refine nS ?_;refine wc_ret ?_;refine blk_r ?_
        refine seq_r ?_;refine loop_r ?_;refine blk_r ?_;refine seq_r ?_
        exact ⟨trivial, [], lf⟩
       ·have e4 : (!decide (x.back = y.back)) = true := by simp [k4]
        refine qR ?_;iterate 2 refine rC ?_
        refine rQ iE ?_;refine rC ?_;refine nS ?_;refine wT ?_;refine kS ?_;refine wc_seq ?_;refine wc_block ?_;refine wc_seq ?_;refine wc_draw (by kernel_rfl) ?_;refine dC [0] [] ?_
        refine dC [5] [] ?_;refine dQ [17, 18] [] (index_arr tab_ok rfl rfl rfl rfl rfl (by omega) hx2) ?_;refine dC [19] [] ?_;refine dQ [20] [] iL ?_;refine dC [1] [] ?_
        refine dC [5] [] ?_;refine dQ [22, 23] [] (index_arr tab_ok rfl rfl rfl rfl rfl (by omega) hy2) ?_;refine dC [24] [] ?_;refine dQ [25] [] iL ?_;refine dC [21, 26] [] ?_
        refine dC [27] [] ?_;refine dreg_onq [28, 0] [] rfl rfl (by assumption) rfl (step_C tab_ok (fun K hk => hk)) ?_;refine dreg_onq [28, 5] [] rfl rfl (by assumption) rfl (step_C tab_ok (fun K hk => hk)) ?_
        refine dreg_onq [28, 29, 30] [] rfl rfl (by assumption) rfl (index_arr tab_ok rfl rfl rfl rfl rfl (by omega) hx2) ?_;refine dreg_onq [28, 31] [] rfl rfl (by assumption) rfl (step_C tab_ok (fun K hk => hk)) ?_
        refine dreg_onq [28, 32] [] rfl rfl (by assumption) rfl (load_i tab_ok rfl rfl) ?_;refine dreg_onq [28, 1] [] rfl rfl (by assumption) rfl (step_C tab_ok (fun K hk => hk)) ?_
        refine dreg_onq [28, 5] [] rfl rfl (by assumption) rfl (step_C tab_ok (fun K hk => hk)) ?_;refine dreg_onq [28, 34, 35] [] rfl rfl (by assumption) rfl (index_arr tab_ok rfl rfl rfl rfl rfl (by omega) hy2) ?_
        refine dreg_onq [28, 36] [] rfl rfl (by assumption) rfl (step_C tab_ok (fun K hk => hk)) ?_;refine dreg_onq [28, 37] [] rfl rfl (by assumption) rfl (load_i tab_ok rfl rfl) ?_
        refine dreg_onq [28, 33, 38] [] rfl rfl (by assumption) rfl (step_C tab_ok (fun K hk => hk)) ?_;refine dQ [28, 39] [] iF ?_;refine dC [40] [] ?_;refine dreg_onq [41, 0] [] rfl rfl (by assumption) rfl (step_C tab_ok (fun K hk => hk)) ?_
        refine dreg_onq [41, 5] [] rfl rfl (by assumption) rfl (step_C tab_ok (fun K hk => hk)) ?_;refine dreg_onq [41, 42, 43] [] rfl rfl (by assumption) rfl (index_arr tab_ok rfl rfl rfl rfl rfl (by omega) hx2) ?_
        refine dreg_onq [41, 44] [] rfl rfl (by assumption) rfl (step_C tab_ok (fun K hk => hk)) ?_;refine dreg_onq [41, 45] [] rfl rfl (by assumption) rfl (load_i tab_ok rfl rfl) ?_
        refine dreg_onq [41, 1] [] rfl rfl (by assumption) rfl (step_C tab_ok (fun K hk => hk)) ?_;refine dreg_onq [41, 5] [] rfl rfl (by assumption) rfl (step_C tab_ok (fun K hk => hk)) ?_
        refine dreg_onq [41, 47, 48] [] rfl rfl (by assumption) rfl (index_arr tab_ok rfl rfl rfl rfl rfl (by omega) hy2) ?_;refine dreg_onq [41, 49] [] rfl rfl (by assumption) rfl (step_C tab_ok (fun K hk => hk)) ?_
        refine dreg_onq [41, 50] [] rfl rfl (by assumption) rfl (load_i tab_ok rfl rfl) ?_;refine dreg_onq [41, 46, 51] [] rfl rfl (by assumption) rfl (step_C tab_ok (fun K hk => hk)) ?_
        refine dQ [41, 52] [] iF ?_;refine dC [53] [] ?_;refine dreg_onq [54, 0] [] rfl rfl (by assumption) rfl (step_C tab_ok (fun K hk => hk)) ?_;refine dreg_onq [54, 5] [] rfl rfl (by assumption) rfl (step_C tab_ok (fun K hk => hk)) ?_
        refine dreg_onq [54, 55, 56] [] rfl rfl (by assumption) rfl (index_arr tab_ok rfl rfl rfl rfl rfl (by omega) hx2) ?_;refine dreg_onq [54, 57] [] rfl rfl (by assumption) rfl (step_C tab_ok (fun K hk => hk)) ?_
        refine dreg_onq [54, 58] [] rfl rfl (by assumption) rfl (load_i tab_ok rfl rfl) ?_;refine dreg_onq [54, 1] [] rfl rfl (by assumption) rfl (step_C tab_ok (fun K hk => hk)) ?_
        refine dreg_onq [54, 5] [] rfl rfl (by assumption) rfl (step_C tab_ok (fun K hk => hk)) ?_;refine dreg_onq [54, 60, 61] [] rfl rfl (by assumption) rfl (index_arr tab_ok rfl rfl rfl rfl rfl (by omega) hy2) ?_
        refine dreg_onq [54, 62] [] rfl rfl (by assumption) rfl (step_C tab_ok (fun K hk => hk)) ?_;refine dreg_onq [54, 63] [] rfl rfl (by assumption) rfl (load_i tab_ok rfl rfl) ?_
        refine dreg_onq [54, 59, 64] [] rfl rfl (by assumption) rfl (step_C tab_ok (fun K hk => hk)) ?_;refine dQ [54, 65] [] iF ?_;refine dC [66] [] ?_;refine dreg_offq [67, 0] rfl rfl (by assumption) rfl ?_
        refine dreg_offq [67, 5] rfl rfl (by assumption) rfl ?_;refine dreg_offq [67, 68, 69] rfl rfl (by assumption) rfl ?_;refine dreg_offq [67, 70] rfl rfl (by assumption) rfl ?_
        refine dreg_offq [67, 71] rfl rfl (by assumption) rfl ?_;refine dreg_offq [67, 72] rfl rfl (by assumption) rfl ?_;refine dreg_offq [67, 1] rfl rfl (by assumption) rfl ?_
        refine dreg_offq [67, 5] rfl rfl (by assumption) rfl ?_;refine dreg_offq [67, 74, 75] rfl rfl (by assumption) rfl ?_;refine dreg_offq [67, 76] rfl rfl (by assumption) rfl ?_
        refine dreg_offq [67, 77] rfl rfl (by assumption) rfl ?_;refine dreg_offq [67, 78] rfl rfl (by assumption) rfl ?_;refine dreg_offq [67, 73, 79] rfl rfl (by assumption) rfl ?_
        refine dQ [67, 80] [] iT ?_;refine dreg_end (by kernel_rfl) ?_;refine seq_n ?_;refine wV ?_;refine sR ?_;refine rC ?_;refine nS ?_;refine wc_ret ?_;refine blk_r ?_
        refine seq_r ?_;refine loop_r ?_;refine blk_r ?_;refine seq_r ?_
        exact ⟨trivial, [], lf⟩
      ·have e3 : (!decide (x.sector = y.sector)) = true := by simp [k3]
       refine qR ?_;iterate 2 refine rC ?_
       refine rQ iE ?_;refine rC ?_;refine nS ?_;refine wT ?_;refine kS ?_;refine wc_seq ?_;refine wc_block ?_;refine wc_seq ?_;refine wc_draw (by kernel_rfl) ?_;refine dC [0] [] ?_
       refine dC [5] [] ?_;refine dQ [17, 18] [] (index_arr tab_ok rfl rfl rfl rfl rfl (by omega) hx2) ?_;refine dC [19] [] ?_;refine dQ [20] [] iL ?_;refine dC [1] [] ?_
       refine dC [5] [] ?_;refine dQ [22, 23] [] (index_arr tab_ok rfl rfl rfl rfl rfl (by omega) hy2) ?_;refine dC [24] [] ?_;refine dQ [25] [] iL ?_;refine dC [21, 26] [] ?_
       refine dC [27] [] ?_;refine dreg_onq [28, 0] [] rfl rfl (by assumption) rfl (step_C tab_ok (fun K hk => hk)) ?_;refine dreg_onq [28, 5] [] rfl rfl (by assumption) rfl (step_C tab_ok (fun K hk => hk)) ?_
       refine dreg_onq [28, 29, 30] [] rfl rfl (by assumption) rfl (index_arr tab_ok rfl rfl rfl rfl rfl (by omega) hx2) ?_;refine dreg_onq [28, 31] [] rfl rfl (by assumption) rfl (step_C tab_ok (fun K hk => hk)) ?_
       refine dreg_onq [28, 32] [] rfl rfl (by assumption) rfl (load_i tab_ok rfl rfl) ?_;refine dreg_onq [28, 1] [] rfl rfl (by assumption) rfl (step_C tab_ok (fun K hk => hk)) ?_
       refine dreg_onq [28, 5] [] rfl rfl (by assumption) rfl (step_C tab_ok (fun K hk => hk)) ?_;refine dreg_onq [28, 34, 35] [] rfl rfl (by assumption) rfl (index_arr tab_ok rfl rfl rfl rfl rfl (by omega) hy2) ?_
       refine dreg_onq [28, 36] [] rfl rfl (by assumption) rfl (step_C tab_ok (fun K hk => hk)) ?_;refine dreg_onq [28, 37] [] rfl rfl (by assumption) rfl (load_i tab_ok rfl rfl) ?_
       refine dreg_onq [28, 33, 38] [] rfl rfl (by assumption) rfl (step_C tab_ok (fun K hk => hk)) ?_;refine dQ [28, 39] [] iF ?_;refine dC [40] [] ?_;refine dreg_onq [41, 0] [] rfl rfl (by assumption) rfl (step_C tab_ok (fun K hk => hk)) ?_
       refine dreg_onq [41, 5] [] rfl rfl (by assumption) rfl (step_C tab_ok (fun K hk => hk)) ?_;refine dreg_onq [41, 42, 43] [] rfl rfl (by assumption) rfl (index_arr tab_ok rfl rfl rfl rfl rfl (by omega) hx2) ?_
       refine dreg_onq [41, 44] [] rfl rfl (by assumption) rfl (step_C tab_ok (fun K hk => hk)) ?_;refine dreg_onq [41, 45] [] rfl rfl (by assumption) rfl (load_i tab_ok rfl rfl) ?_
       refine dreg_onq [41, 1] [] rfl rfl (by assumption) rfl (step_C tab_ok (fun K hk => hk)) ?_;refine dreg_onq [41, 5] [] rfl rfl (by assumption) rfl (step_C tab_ok (fun K hk => hk)) ?_
       refine dreg_onq [41, 47, 48] [] rfl rfl (by assumption) rfl (index_arr tab_ok rfl rfl rfl rfl rfl (by omega) hy2) ?_;refine dreg_onq [41, 49] [] rfl rfl (by assumption) rfl (step_C tab_ok (fun K hk => hk)) ?_
       refine dreg_onq [41, 50] [] rfl rfl (by assumption) rfl (load_i tab_ok rfl rfl) ?_;refine dreg_onq [41, 46, 51] [] rfl rfl (by assumption) rfl (step_C tab_ok (fun K hk => hk)) ?_
       refine dQ [41, 52] [] iF ?_;refine dC [53] [] ?_;refine dreg_offq [54, 0] rfl rfl (by assumption) rfl ?_;refine dreg_offq [54, 5] rfl rfl (by assumption) rfl ?_
       refine dreg_offq [54, 55, 56] rfl rfl (by assumption) rfl ?_;refine dreg_offq [54, 57] rfl rfl (by assumption) rfl ?_;refine dreg_offq [54, 58] rfl rfl (by assumption) rfl ?_
       refine dreg_offq [54, 1] rfl rfl (by assumption) rfl ?_;refine dreg_offq [54, 5] rfl rfl (by assumption) rfl ?_;refine dreg_offq [54, 60, 61] rfl rfl (by assumption) rfl ?_
       refine dreg_offq [54, 62] rfl rfl (by assumption) rfl ?_;refine dreg_offq [54, 63] rfl rfl (by assumption) rfl ?_;refine dreg_offq [54, 59, 64] rfl rfl (by assumption) rfl ?_
       refine dQ [54, 65] [] iT ?_;refine dC [66] [] ?_;refine dreg_offq [67, 0] rfl rfl rfl rfl ?_;refine dreg_offq [67, 5] rfl rfl rfl rfl ?_;refine dreg_offq [67, 68, 69] rfl rfl rfl rfl ?_
       refine dreg_offq [67, 70] rfl rfl rfl rfl ?_;refine dreg_offq [67, 71] rfl rfl rfl rfl ?_;refine dreg_offq [67, 72] rfl rfl rfl rfl ?_;refine dreg_offq [67, 1] rfl rfl rfl rfl ?_
       refine dreg_offq [67, 5] rfl rfl rfl rfl ?_;refine dreg_offq [67, 74, 75] rfl rfl rfl rfl ?_;refine dreg_offq [67, 76] rfl rfl rfl rfl ?_;refine dreg_offq [67, 77] rfl rfl rfl rfl ?_
       refine dreg_offq [67, 78] rfl rfl rfl rfl ?_;refine dreg_offq [67, 73, 79] rfl rfl rfl rfl ?_;refine dQ [67, 80] [] iU ?_;refine dreg_end (by kernel_rfl) ?_;refine seq_n ?_
       refine wV ?_;refine sR ?_;refine rC ?_;refine nS ?_;refine wc_ret ?_;refine blk_r ?_;refine seq_r ?_;refine loop_r ?_;refine blk_r ?_;refine seq_r ?_
       exact ⟨trivial, [], lf⟩
     ·have e2 : (!decide (x.thread = y.thread)) = true := by simp [k2]
      refine qR ?_;iterate 2 refine rC ?_
      refine rQ iE ?_;refine rC ?_;refine nS ?_;refine wT ?_;refine kS ?_;refine wc_seq ?_;refine wc_block ?_;refine wc_seq ?_;refine wc_draw (by kernel_rfl) ?_;refine dC [0] [] ?_
      refine dC [5] [] ?_;refine dQ [17, 18] [] (index_arr tab_ok rfl rfl rfl rfl rfl (by omega) hx2) ?_;refine dC [19] [] ?_;refine dQ [20] [] iL ?_;refine dC [1] [] ?_
      refine dC [5] [] ?_;refine dQ [22, 23] [] (index_arr tab_ok rfl rfl rfl rfl rfl (by omega) hy2) ?_;refine dC [24] [] ?_;refine dQ [25] [] iL ?_;refine dC [21, 26] [] ?_
      refine dC [27] [] ?_;refine dreg_onq [28, 0] [] rfl rfl (by assumption) rfl (step_C tab_ok (fun K hk => hk)) ?_;refine dreg_onq [28, 5] [] rfl rfl (by assumption) rfl (step_C tab_ok (fun K hk => hk)) ?_
      refine dreg_onq [28, 29, 30] [] rfl rfl (by assumption) rfl (index_arr tab_ok rfl rfl rfl rfl rfl (by omega) hx2) ?_;refine dreg_onq [28, 31] [] rfl rfl (by assumption) rfl (step_C tab_ok (fun K hk => hk)) ?_
      refine dreg_onq [28, 32] [] rfl rfl (by assumption) rfl (load_i tab_ok rfl rfl) ?_;refine dreg_onq [28, 1] [] rfl rfl (by assumption) rfl (step_C tab_ok (fun K hk => hk)) ?_
      refine dreg_onq [28, 5] [] rfl rfl (by assumption) rfl (step_C tab_ok (fun K hk => hk)) ?_;refine dreg_onq [28, 34, 35] [] rfl rfl (by assumption) rfl (index_arr tab_ok rfl rfl rfl rfl rfl (by omega) hy2) ?_
      refine dreg_onq [28, 36] [] rfl rfl (by assumption) rfl (step_C tab_ok (fun K hk => hk)) ?_;refine dreg_onq [28, 37] [] rfl rfl (by assumption) rfl (load_i tab_ok rfl rfl) ?_
      refine dreg_onq [28, 33, 38] [] rfl rfl (by assumption) rfl (step_C tab_ok (fun K hk => hk)) ?_;refine dQ [28, 39] [] iF ?_;refine dC [40] [] ?_;refine dreg_offq [41, 0] rfl rfl (by assumption) rfl ?_
      refine dreg_offq [41, 5] rfl rfl (by assumption) rfl ?_;refine dreg_offq [41, 42, 43] rfl rfl (by assumption) rfl ?_;refine dreg_offq [41, 44] rfl rfl (by assumption) rfl ?_
      refine dreg_offq [41, 45] rfl rfl (by assumption) rfl ?_;refine dreg_offq [41, 1] rfl rfl (by assumption) rfl ?_;refine dreg_offq [41, 5] rfl rfl (by assumption) rfl ?_
      refine dreg_offq [41, 47, 48] rfl rfl (by assumption) rfl ?_;refine dreg_offq [41, 49] rfl rfl (by assumption) rfl ?_;refine dreg_offq [41, 50] rfl rfl (by assumption) rfl ?_
      refine dreg_offq [41, 46, 51] rfl rfl (by assumption) rfl ?_;refine dQ [41, 52] [] iT ?_;refine dC [53] [] ?_;refine dreg_offq [54, 0] rfl rfl rfl rfl ?_;refine dreg_offq [54, 5] rfl rfl rfl rfl ?_
      refine dreg_offq [54, 55, 56] rfl rfl rfl rfl ?_;refine dreg_offq [54, 57] rfl rfl rfl rfl ?_;refine dreg_offq [54, 58] rfl rfl rfl rfl ?_;refine dreg_offq [54, 1] rfl rfl rfl rfl ?_
      refine dreg_offq [54, 5] rfl rfl rfl rfl ?_;refine dreg_offq [54, 60, 61] rfl rfl rfl rfl ?_;refine dreg_offq [54, 62] rfl rfl rfl rfl ?_;refine dreg_offq [54, 63] rfl rfl rfl rfl ?_
      refine dreg_offq [54, 59, 64] rfl rfl rfl rfl ?_;refine dQ [54, 65] [] iU ?_;refine dC [66] [] ?_;refine dreg_offq [67, 0] rfl rfl rfl rfl ?_;refine dreg_offq [67, 5] rfl rfl rfl rfl ?_
      refine dreg_offq [67, 68, 69] rfl rfl rfl rfl ?_;refine dreg_offq [67, 70] rfl rfl rfl rfl ?_;refine dreg_offq [67, 71] rfl rfl rfl rfl ?_;refine dreg_offq [67, 72] rfl rfl rfl rfl ?_
      refine dreg_offq [67, 1] rfl rfl rfl rfl ?_;refine dreg_offq [67, 5] rfl rfl rfl rfl ?_;refine dreg_offq [67, 74, 75] rfl rfl rfl rfl ?_;refine dreg_offq [67, 76] rfl rfl rfl rfl ?_
      refine dreg_offq [67, 77] rfl rfl rfl rfl ?_;refine dreg_offq [67, 78] rfl rfl rfl rfl ?_;refine dreg_offq [67, 73, 79] rfl rfl rfl rfl ?_;refine dQ [67, 80] [] iU ?_
      refine dreg_end (by kernel_rfl) ?_;refine seq_n ?_;refine wV ?_;refine sR ?_;refine rC ?_;refine nS ?_;refine wc_ret ?_;refine blk_r ?_;refine seq_r ?_;refine loop_r ?_
      refine blk_r ?_;refine seq_r ?_
      exact ⟨trivial, [], lf⟩
    ·have e1 : (!decide (x.kind = y.kind)) = true := by simp [k1]
     refine qR ?_;iterate 2 refine rC ?_
     refine rQ iE ?_;refine rC ?_;refine nS ?_;refine wT ?_;refine kS ?_;refine wc_seq ?_;refine wc_block ?_;refine wc_seq ?_;refine wc_draw (by kernel_rfl) ?_;refine dC [0] [] ?_
     refine dC [5] [] ?_;refine dQ [17, 18] [] (index_arr tab_ok rfl rfl rfl rfl rfl (by omega) hx2) ?_;refine dC [19] [] ?_;refine dQ [20] [] iL ?_;refine dC [1] [] ?_
     refine dC [5] [] ?_;refine dQ [22, 23] [] (index_arr tab_ok rfl rfl rfl rfl rfl (by omega) hy2) ?_;refine dC [24] [] ?_;refine dQ [25] [] iL ?_;refine dC [21, 26] [] ?_
     refine dC [27] [] ?_;refine dreg_offq [28, 0] rfl rfl (by assumption) rfl ?_;refine dreg_offq [28, 5] rfl rfl (by assumption) rfl ?_;refine dreg_offq [28, 29, 30] rfl rfl (by assumption) rfl ?_
     refine dreg_offq [28, 31] rfl rfl (by assumption) rfl ?_;refine dreg_offq [28, 32] rfl rfl (by assumption) rfl ?_;refine dreg_offq [28, 1] rfl rfl (by assumption) rfl ?_
     refine dreg_offq [28, 5] rfl rfl (by assumption) rfl ?_;refine dreg_offq [28, 34, 35] rfl rfl (by assumption) rfl ?_;refine dreg_offq [28, 36] rfl rfl (by assumption) rfl ?_
     refine dreg_offq [28, 37] rfl rfl (by assumption) rfl ?_;refine dreg_offq [28, 33, 38] rfl rfl (by assumption) rfl ?_;refine dQ [28, 39] [] iT ?_;refine dC [40] [] ?_
     refine dreg_offq [41, 0] rfl rfl rfl rfl ?_;refine dreg_offq [41, 5] rfl rfl rfl rfl ?_;refine dreg_offq [41, 42, 43] rfl rfl rfl rfl ?_;refine dreg_offq [41, 44] rfl rfl rfl rfl ?_
     refine dreg_offq [41, 45] rfl rfl rfl rfl ?_;refine dreg_offq [41, 1] rfl rfl rfl rfl ?_;refine dreg_offq [41, 5] rfl rfl rfl rfl ?_;refine dreg_offq [41, 47, 48] rfl rfl rfl rfl ?_
     refine dreg_offq [41, 49] rfl rfl rfl rfl ?_;refine dreg_offq [41, 50] rfl rfl rfl rfl ?_;refine dreg_offq [41, 46, 51] rfl rfl rfl rfl ?_;refine dQ [41, 52] [] iU ?_
     refine dC [53] [] ?_;refine dreg_offq [54, 0] rfl rfl rfl rfl ?_;refine dreg_offq [54, 5] rfl rfl rfl rfl ?_;refine dreg_offq [54, 55, 56] rfl rfl rfl rfl ?_;refine dreg_offq [54, 57] rfl rfl rfl rfl ?_
     refine dreg_offq [54, 58] rfl rfl rfl rfl ?_;refine dreg_offq [54, 1] rfl rfl rfl rfl ?_;refine dreg_offq [54, 5] rfl rfl rfl rfl ?_;refine dreg_offq [54, 60, 61] rfl rfl rfl rfl ?_
     refine dreg_offq [54, 62] rfl rfl rfl rfl ?_;refine dreg_offq [54, 63] rfl rfl rfl rfl ?_;refine dreg_offq [54, 59, 64] rfl rfl rfl rfl ?_;refine dQ [54, 65] [] iU ?_
     refine dC [66] [] ?_;refine dreg_offq [67, 0] rfl rfl rfl rfl ?_;refine dreg_offq [67, 5] rfl rfl rfl rfl ?_;refine dreg_offq [67, 68, 69] rfl rfl rfl rfl ?_;refine dreg_offq [67, 70] rfl rfl rfl rfl ?_
     refine dreg_offq [67, 71] rfl rfl rfl rfl ?_;refine dreg_offq [67, 72] rfl rfl rfl rfl ?_;refine dreg_offq [67, 1] rfl rfl rfl rfl ?_;refine dreg_offq [67, 5] rfl rfl rfl rfl ?_
     refine dreg_offq [67, 74, 75] rfl rfl rfl rfl ?_;refine dreg_offq [67, 76] rfl rfl rfl rfl ?_;refine dreg_offq [67, 77] rfl rfl rfl rfl ?_;refine dreg_offq [67, 78] rfl rfl rfl rfl ?_
     refine dreg_offq [67, 73, 79] rfl rfl rfl rfl ?_;refine dQ [67, 80] [] iU ?_;refine dreg_end (by kernel_rfl) ?_;refine seq_n ?_;refine wV ?_;refine sR ?_;refine rC ?_
     refine nS ?_;refine wc_ret ?_;refine blk_r ?_;refine seq_r ?_;refine loop_r ?_;refine blk_r ?_;refine seq_r ?_
     exact ⟨trivial, [], lf⟩
  ·have he : i = a.length := by omega
   subst he
   have d0 : decide ((a.length : Int) < (a.length : Int)) = false := dF (by omega)
   rw [if_pos (eq_of_at hl hall)]
   refine qR ?_;iterate 2 refine rC ?_
   refine rQ iE ?_;refine rC ?_;refine nS ?_;refine wF ?_;refine wc_exit ?_;refine seq_x ?_;refine loop_x ?_;refine blk_x ?_;refine seq_n ?_;refine sR ?_;refine rC ?_
   refine nS ?_;refine wc_ret ?_
   exact ⟨trivial, [], lf⟩
 ·have d1 : (!decide ((a.length : Int) = (b.length : Int))) = true := by rw [dF (by omega)]; rfl
  rw [if_neg (show ¬ a = b from fun e => hl (by rw [e]))]
  refine wT ?_;refine sR ?_;refine rC ?_;refine nS ?_;refine wc_ret ?_;refine seq_r ?_
  exact ⟨trivial, [], lf⟩
def exC : SCfg := ⟨1, 1, 3, 1, 8, 8, List.replicate 32 0, 0⟩
abbrev exV : List (Bool × SAct) := [(true, ⟨1, 0, 0, [], 0⟩), (false, ⟨2, 0, 2, [10, 255], 0⟩), (true, ⟨3, 0, 1, [], 0⟩), (true, ⟨4, 0, 0, [], 1⟩), (true, ⟨5, 0, 0, [], 0⟩)]
def encNL : Unit → D := fun _ => .sc nil_
theorem ex_is : FnIs Tryz.prog 17 [] [] (.acons (.d (encCfg exC)) (.acons (.d (.arr 1 encNL [()])) (.acons (.own 64 0 5 5 none) (.d .nil)))) [(64, .ds 39 5 true encAV exV)] := by
 refine fnIs_of tab_ok Tryz.func17 rfl rfl rfl ?_;refine sR ?_;refine rN ?_;refine nR ?_;refine rQ iS ?_;refine rQ (StepIs.frozen (build_slice (s := 1) tab_ok rfl rfl rfl rfl rfl rfl rfl rfl) (Frz.lits1 (enc := encNL) () rfl rfl)) ?_
 refine rQ iS ?_;refine rQ (StepIs.frozen (build_slice (s := 1) tab_ok rfl rfl rfl rfl rfl rfl rfl rfl) (Frz.lits2 (enc := encU8) (10 : Int) (255 : Int) rfl rfl rfl rfl)) ?_
 iterate 4 refine rQ iS ?_
 refine reg_new (build_list (s := 5) (enc := encAV) (xs := exV) tab_ok rfl rfl rfl rfl rfl rfl rfl rfl rfl encAV_size rfl) rfl ?_;refine rQ iS ?_;refine rW ?_;refine nS ?_
 refine wc_ret ?_
 exact ⟨trivial, _, rfl, [(64, some _)], .of rfl rfl rfl rfl rfl ⟨⟨_, rfl, AVLe.of_eq rfl⟩, rfl, trivial⟩ ⟨⟨rfl, rfl, _, rfl, .refl _⟩, trivial⟩⟩
def exL (t s : Int) : List SAct := [⟨1, t, 0, [], 0⟩, ⟨2, 0, 2, [10, 255], 0⟩, ⟨3, 0, s, [], 0⟩, ⟨4, 0, 0, [], 1⟩, ⟨5, 0, 0, [], 0⟩]
theorem exL_0 : schk exC [[]] (exL 0 1) = 0 := by decide +kernel
theorem exL_2 : schk exC [[]] (exL 2 1) = 1 := by decide +kernel
theorem exL_1 : schk exC [[]] (exL 1 1) = 0 := by decide +kernel
theorem exL_4 : schk exC [[]] (exL 1 4) = 1 := by decide +kernel
def lvA : List UInt8 := [118, 111, 108, 117, 109, 101, 32, 49, 32, 49, 32, 51, 32, 49, 10, 110, 111, 110, 99, 101, 115, 32, 56, 32, 56, 10, 102, 108, 97, 119, 32, 48, 10, 109, 97, 115, 116, 101, 114, 32]
def lvB : List UInt8 := [10, 112, 114, 111, 103, 114, 97, 109, 115, 10]
def lvC : List UInt8 := [97, 99, 116, 105, 111, 110, 115, 10, 112, 105, 99, 107, 32, 48, 10, 101, 100, 105, 116, 32, 50, 32, 48, 97, 102, 102, 10, 101, 114, 97, 115, 101, 32, 49, 10, 114, 101, 112, 108, 97, 121, 32, 48, 32, 49, 10, 102, 97, 108, 108, 10]
theorem exT : textP2 exC [[]] (exL 0 1) = (lvA ++ hexP (List.replicate 32 0) ++ lvB ++ textP [[]] ++ lvC, 0) := by decide +kernel
theorem exP : chkP [[]] = 0 := by decide +kernel
def px1 : List UInt8 := [118, 111, 108, 117, 109, 101, 32, 49, 32, 49, 32, 51, 10]
def px2 : List UInt8 := [118, 111, 108, 117, 109, 101, 32, 49, 32, 49, 32, 51, 32, 49, 10, 110, 111, 110, 99, 101, 115, 32, 56, 32, 48, 56, 10]
def px3 : List UInt8 := [118, 111, 108, 117, 109, 101, 32, 49, 32, 49, 32, 51, 32, 49]
theorem px_1 : parseX px1 = (zScr, 1, 5) := by decide +kernel
theorem px_2 : parseX px2 = (zScr, 2, 5) := by decide +kernel
theorem px_3 : parseX px3 = (zScr, 0, 5) := by decide +kernel
theorem exC_ok : exC.Ok := ⟨by unfold InI exC; decide, by unfold InI exC; decide, by unfold InI exC; decide, by unfold InI exC; decide, by unfold InU exC; decide, by unfold InU exC; decide, rfl, by unfold exC; decide⟩
abbrev exW (t s : Int) : List (Bool × SAct) := [(true, ⟨1, t, 0, [], 0⟩), (false, ⟨2, 0, 2, [10, 255], 0⟩), (true, ⟨3, 0, s, [], 0⟩), (true, ⟨4, 0, 0, [], 1⟩), (true, ⟨5, 0, 0, [], 0⟩)]
theorem exW_ok (t s : Int) : ∀ x ∈ exW t s, AVOk x := by
 intro x hx
 simp only [exW, List.mem_cons, List.not_mem_nil, or_false] at hx
 rcases hx with rfl | rfl | rfl | rfl | rfl
 ·exact fun _ => rfl
 ·exact fun h => by cases h
 ·exact fun _ => rfl
 ·exact fun _ => rfl
 ·exact fun _ => rfl
theorem nl_le : DLe (.arr 1 encNL [()]) (encPL [[]]) := dle_arr (g := fun _ => []) rfl fun _ _ => DLe.nil_arr 3 encPOp
theorem arg_scr {look : Nat → Option Row} {ρ : Nat → Option Nat} {c : SCfg} {l : List (List POp)} {r n te : Nat} {ex : Bool} {cap : Option Nat} {P : D} {V : List (Bool × SAct)} {bs : List SAct} {bs9 avs : List AV} (hr : look r = some (.ds te 5 ex encAV V)) (hn : n = V.length) (hP : DLe P (encPL l)) (hb : bs = V.map (·.2)) (hV : ∀ x ∈ V, AVOk x) (h : ArgsA look ρ bs9 avs) :
  ArgsA look ρ (.acons (.d (encCfg c)) (.acons (.d P) (.acons (.own r 0 n 5 cap) (.d .nil))) :: bs9) (.d (encScr c l bs) :: avs) :=
 ⟨_, avs, rfl, ⟨rfl, rfl⟩, ⟨rfl, _, _, rfl, DLe.refl _, _, _, rfl, hP, _, _, rfl, by subst hn; simp only [ArgD, hr]; exact ⟨trivial, by simp, V, by simp, encAVs_le hb hV⟩, DLe.refl _⟩, h⟩
theorem exL_len (t s : Int) : (exL t s).length ≤ 1000000000 := by show 5 ≤ _; decide
theorem exL_W (t s : Int) : exL t s = (exW t s).map (·.2) := rfl
theorem nb : Bd [[]] := ⟨by decide, fun p hp => by simp only [List.mem_cons, List.not_mem_nil, or_false] at hp; subst hp; decide⟩
theorem nok : OkL [[]] := fun p hp => by simp only [List.mem_cons, List.not_mem_nil, or_false] at hp; subst hp; intro o ho; cases ho
theorem exL_ok : ∀ a ∈ exL 0 1, a.Ok := by
 intro a ha
 simp only [exL, List.mem_cons, List.not_mem_nil, or_false] at ha
 rcases ha with rfl | rfl | rfl | rfl | rfl <;> exact ⟨by decide, by unfold InI; decide, by unfold InI; decide, by unfold InI; decide⟩
theorem plT (l : List UInt8) (e : Int) : PlainRes (.tup (.acons (.d (strD l)) (.acons (.d (i6 e)) .anil))) [] := PlainRes.of ⟨trivial, trivial, trivial⟩ plain_rows_nil
theorem plC : PlainRes (.tup (.acons (.int .i64 (cA isP (exL 0 1))) (.acons (.int .i64 (cA isE (exL 0 1))) (.acons (.int .i64 (cA isF (exL 0 1))) .anil)))) [] := PlainRes.of ⟨trivial, trivial, trivial, trivial⟩ plain_rows_nil
theorem lives_is : FnIs Tryz.prog 10 [] [] (.bool true) [] := by
 have hl1 : lvA.length + (hexP (List.replicate 32 0)).length ≤ 9223372036854775807 := by decide +kernel
 have hl2 : (lvA ++ hexP (List.replicate 32 0)).length + lvB.length ≤ 9223372036854775807 := by decide +kernel
 have hl3 : (lvA ++ hexP (List.replicate 32 0) ++ lvB).length + (textP [[]]).length ≤ 9223372036854775807 := by decide +kernel
 have hl4 : (lvA ++ hexP (List.replicate 32 0) ++ lvB ++ textP [[]]).length + lvC.length ≤ 9223372036854775807 := by decide +kernel
 have hne : (!decide (mkS (lvA ++ hexP (List.replicate 32 0) ++ lvB ++ textP [[]] ++ lvC) = mkS (lvA ++ hexP (List.replicate 32 0) ++ lvB ++ textP [[]] ++ lvC))) = false := by simp
 have hHex := rhex34_is (List.replicate 32 0) (by decide)
 have hText := stext_is exC [[]] (exL 0 1) exC_ok nb nok (exL_len _ _) exL_ok
 have hProg := text_is [[]] nb nok
 have hC0 := scheck_is exC [[]] (exL 0 1) exC_ok nb (exL_len _ _)
 have hC2 := scheck_is exC [[]] (exL 2 1) exC_ok nb (exL_len _ _)
 have hC1 := scheck_is exC [[]] (exL 1 1) exC_ok nb (exL_len _ _)
 have hC4 := scheck_is exC [[]] (exL 1 4) exC_ok nb (exL_len _ _)
 have hCnt := countA_is exC [[]] (exL 0 1) (exL_len _ _)
 have hP1 := sparse_is px1
 have hP2 := sparse_is px2
 have hP3 := sparse_is px3
 rw [exT] at hText
 rw [exP, if_pos rfl] at hProg
 rw [exL_0] at hC0
 rw [exL_2] at hC2
 rw [exL_1] at hC1
 rw [exL_4] at hC4
 rw [px_1] at hP1
 rw [px_2] at hP2
 rw [px_3] at hP3
 refine fnIs_of tab_ok Tryz.func10 rfl rfl rfl ?_;refine sR ?_;refine rC ?_;refine nR ?_;refine reg_new (call_new ex_is rfl rfl arg_nil (.inl rfl) rfl rfl) rfl ?_
 refine rN ?_;refine rW ?_;refine nR ?_;refine rQ iM ?_;refine rQ (call_r hText rfl rfl (arg_scr rfl rfl nl_le (exL_W 0 1) (exW_ok 0 1) arg_nil) (.inr (plT _ _)) (fun _ => rfl)) ?_
 iterate 5 refine rC ?_
 refine nR ?_;refine rC ?_;refine rQ iM ?_;refine rQ (call_r hProg rfl rfl (arg_d rfl trivial nl_le arg_nil) (.inl rfl) (fun _ => rfl)) ?_;iterate 5 refine rC ?_
 refine nR ?_;refine reg_new (make_full (enc := encU8) (s := 1) (N := 32) tab_ok 0 rfl rfl rfl rfl rfl rfl rfl (by decide) rfl) rfl ?_;refine rQ (call_r hHex rfl rfl (arg_ownL (xs := byI (List.replicate 32 0)) (enc := encU8) (s := 1) rfl rfl arg_nil) (.inr (PlainRes.sc _)) (fun _ => rfl)) ?_
 refine rQ (add_str (a := lvA) (b := hexP (List.replicate 32 0)) rfl rfl hl1 rfl) ?_;refine rQ (add_str (a := lvA ++ hexP (List.replicate 32 0)) (b := lvB) rfl rfl hl2 rfl) ?_
 refine rC ?_;refine nQ ?_;refine sR ?_;iterate 3 refine rC ?_
 refine rP ?_;refine rC ?_;refine rP ?_;refine rC ?_;refine rQ iG ?_;refine rC ?_;refine rP ?_;refine rQ iM ?_;refine rP ?_;refine rQ (call_r hC0 rfl rfl (arg_scr rfl rfl nl_le (exL_W 0 1) (exW_ok 0 1) arg_nil) (.inr (PlainRes.sc _)) (fun _ => rfl)) ?_
 refine rP ?_;refine rC ?_;refine rQ iG ?_;refine rC ?_;refine rP ?_;refine rC ?_;refine rP ?_;refine rC ?_;refine rP ?_;refine rC ?_;refine rP ?_;refine rQ (add_str (a := lvA ++ hexP (List.replicate 32 0) ++ lvB) (b := textP [[]]) rfl rfl hl3 rfl) ?_
 refine rP ?_;refine rQ (add_str (a := lvA ++ hexP (List.replicate 32 0) ++ lvB ++ textP [[]]) (b := lvC) rfl rfl hl4 rfl) ?_;refine rP ?_;refine rQ (neq_str tab_ok rfl rfl rfl) ?_
 refine rQ iG ?_;refine nS ?_;refine wG ?_;refine kS ?_;refine sR ?_;refine rQ iM ?_;refine rQ (call_r hCnt rfl rfl (arg_scr rfl rfl nl_le (exL_W 0 1) (exW_ok 0 1) arg_nil) (.inr plC) (fun _ => rfl)) ?_
 iterate 7 refine rC ?_
 refine nR ?_;refine rC ?_;refine rQ iM ?_;refine rQ (index_own tab_ok rfl rfl rfl rfl rfl (by omega) (by omega)) ?_;refine rC ?_;refine reg_store (store_row tab_ok rfl rfl rfl ⟨rfl, (true, ⟨1, 0, 0, [], 0⟩), (true, ⟨1, 2, 0, [], 0⟩), rfl, ⟨_, ⟨rfl, rfl, rfl⟩, rfl⟩, rfl⟩ rfl) ?_
 refine nR ?_;refine rQ iM ?_;refine rQ (call_r hC2 rfl rfl (arg_scr rfl rfl nl_le (exL_W 2 1) (exW_ok 2 1) arg_nil) (.inr (PlainRes.sc _)) (fun _ => rfl)) ?_;refine rC ?_
 refine nR ?_;refine rC ?_;refine rQ iM ?_;refine rQ (index_own tab_ok rfl rfl rfl rfl rfl (by omega) (by omega)) ?_;refine rC ?_;refine reg_store (store_row tab_ok rfl rfl rfl ⟨rfl, (true, ⟨1, 2, 0, [], 0⟩), (true, ⟨1, 1, 0, [], 0⟩), rfl, ⟨_, ⟨rfl, rfl, rfl⟩, rfl⟩, rfl⟩ rfl) ?_
 refine nR ?_;refine rQ iM ?_;refine rQ (call_r hC1 rfl rfl (arg_scr rfl rfl nl_le (exL_W 1 1) (exW_ok 1 1) arg_nil) (.inr (PlainRes.sc _)) (fun _ => rfl)) ?_;refine rC ?_
 refine nR ?_;refine rC ?_;refine rQ iM ?_;refine rQ (index_own tab_ok rfl rfl rfl rfl rfl (by omega) (by omega)) ?_;refine rC ?_;refine reg_store (store_row tab_ok rfl rfl rfl ⟨rfl, (true, ⟨3, 0, 1, [], 0⟩), (true, ⟨3, 0, 4, [], 0⟩), rfl, ⟨_, ⟨rfl, rfl, rfl⟩, rfl⟩, rfl⟩ rfl) ?_
 refine nQ ?_;refine sR ?_;refine rQ (StepIs.frozen (build_slice (s := 1) tab_ok rfl rfl rfl rfl rfl rfl rfl rfl) (Frz.litsN (enc := strD) [px1, px2, px3] rfl (fun _ _ => rfl))) ?_
 refine rQ iE ?_;refine rC ?_;refine nS ?_;refine wc_block ?_
 refine wc_inv (fun i : Nat => ⟨[(76, .int .i64 i), (75, .int .i64 3), (74, .d (.arr 1 strD [px1, px2, px3])), (1, .ptr 64 []), (7, .int .i64 1), (8, .int .i64 3), (9, .int .i64 1), (10, .int .i64 1), (11, .int .i64 0)], [(64, some (.box 30 (.acons (.d (encCfg exC)) (.acons (.d (.arr 1 encNL [()])) (.acons (.own 65 0 5 5 none) (.d .nil)))))), (65, some (.ds 39 5 true encAV (exW 1 4)))], 72, Tryz.f10.ntmps, 64⟩) (fun i => i ≤ 3) (fun i => 3 - i) 0 [(64, some _), (65, some _)] (Nat.zero_le _)
  (.of rfl rfl rfl rfl rfl ⟨⟨_, rfl, .refl _⟩, rfl, ⟨_, rfl, .refl _⟩, rfl, ⟨_, rfl, .refl _⟩, rfl, ⟨_, rfl, .refl _⟩, rfl, ⟨_, rfl, .refl _⟩, rfl, ⟨_, rfl, .refl _⟩, rfl, ⟨_, rfl, .refl _⟩, rfl, ⟨_, rfl, .refl _⟩, rfl, ⟨_, rfl, .refl _⟩, rfl, trivial⟩ ⟨⟨rfl, rfl, _, rfl, .refl _⟩, ⟨rfl, rfl, _, rfl, .refl _⟩, trivial⟩) ?_
 intro i hi
 refine wc_of ?_
 by_cases hlt : i < 3
 ·have d0 : decide ((i : Int) < 3) = true := dT (by omega)
  obtain ⟨t, n, ht, hn, hP⟩ : ∃ (t : List UInt8) (n : Nat), [px1, px2, px3][((i : Int)).toNat]? = some t ∧ Sub (.cons (i6 1) (.cons (i6 2) (.cons (i6 0) .nil))) [.idx ((i : Int)).toNat 1] (i6 n) ∧ FnIs Tryz.prog 15 [.d (strD t)] [] (parSA zScr n 5) [] := by
   rw [Int.toNat_natCast]
   match i, hlt with
   | 0, _ => exact ⟨px1, 1, rfl, rfl, hP1⟩
   | 1, _ => exact ⟨px2, 2, rfl, rfl, hP2⟩
   | 2, _ => exact ⟨px3, 0, rfl, rfl, hP3⟩
  have dn : (!decide ((n : Int) = (n : Int))) = false := by simp
  refine sR ?_;refine rC ?_;refine nQ ?_;refine wT ?_;refine kS ?_;refine wc_seq ?_;refine wc_block ?_;refine sR ?_;refine rC ?_;refine rQ (index_arr tab_ok rfl rfl rfl rfl rfl (by omega) ht) ?_
  refine rQ iL ?_;iterate 2 refine rC ?_
  refine nR ?_;refine rC ?_;refine rQ (call_r hP rfl rfl (arg_e arg_nil) (.inl rfl) (fun _ => rfl)) ?_;iterate 4 refine rC ?_
  refine rN ?_;refine rW ?_;iterate 2 refine rC ?_
  refine nR ?_;iterate 3 refine rC ?_
  refine rP ?_;refine rC ?_;refine rP ?_;refine rQ (build_arr_of tab_ok rfl rfl rfl rfl rfl rfl rfl) ?_;refine rP ?_;refine rC ?_;refine rP ?_;refine rQ (index_vec (k := .i64) (m := (i : Int)) (z := i6 n) tab_ok rfl rfl rfl rfl rfl (by omega) (by omega) hn rfl) ?_
  refine rP ?_;refine rC ?_;refine rQ iG ?_;refine nS ?_;refine wF ?_;refine wc_skip ?_;refine blk_n ?_;refine seq_n ?_;refine wc_region ?_;refine rQ iD ?_;refine rC ?_
  refine reg_nil ?_
  exact loop_n (i + 1) [(64, some _), (65, some _)] hlt (by omega) (.of rfl rfl rfl rfl rfl ⟨⟨_, rfl, .refl _⟩, rfl, ⟨_, rfl, .refl _⟩, rfl, ⟨_, rfl, .refl _⟩, rfl, ⟨_, rfl, .refl _⟩, rfl, ⟨_, rfl, .refl _⟩, rfl, ⟨_, rfl, .refl _⟩, rfl, ⟨_, rfl, .refl _⟩, rfl, ⟨_, rfl, .refl _⟩, rfl, ⟨_, rfl, .refl _⟩, rfl, trivial⟩ ⟨⟨rfl, rfl, _, rfl, .refl _⟩, ⟨rfl, rfl, _, rfl, .refl _⟩, trivial⟩)
 ·have he : i = 3 := by omega
  subst he
  refine sR ?_;refine rC ?_;refine nQ ?_;refine wG ?_;refine wc_exit ?_;refine seq_x ?_;refine loop_x ?_;refine blk_x ?_;refine seq_n ?_;refine sR ?_;iterate 3 refine rC ?_
  refine rP ?_;refine rC ?_;refine rP ?_;refine rC ?_;refine rQ iU ?_;refine rC ?_;refine rP ?_;refine rC ?_;refine rP ?_;refine rC ?_;refine rQ iU ?_;refine rC ?_
  refine rP ?_;refine rC ?_;refine rP ?_;refine rC ?_;refine rQ iU ?_;refine rC ?_;refine rP ?_;refine rC ?_;refine rP ?_;refine rC ?_;refine rQ iU ?_;refine rC ?_
  refine rP ?_;refine rQ iM ?_;refine rP ?_;refine rQ (call_r hC4 rfl rfl (arg_scr rfl rfl nl_le (exL_W 1 4) (exW_ok 1 4) arg_nil) (.inr (PlainRes.sc _)) (fun _ => rfl)) ?_
  refine rP ?_;refine rC ?_;refine rQ iU ?_;refine rC ?_;refine nS ?_;refine wc_ret ?_
  exact ⟨trivial, [], lf⟩
end Go.Proofs.YthiijfbcfoifnaaGreatDoor
